import PyProof.Rows.All
import HandS.ForMost
import HandS.ForExc
import HandS.Head0
import HandS.Head1
import HandS.Head2
import HandS.HeadHook1
import HandS.HeadHook2
import PySem.Challenge.RW_bothgreen_k52_whole_gaps_of_spaced_momen
import Wide.All
import OpenK.AllK
import Wide.FinOn
import HandS.IsInst
import HandS.Zip
import HandS.Wide
import HandS.FStr
import HandS.Property
import HandS.Defaults
import HandS.OwnEq
import HandS.ExcInit
import HandS.Lambda
import KE.KOpsOwn
import KE.KCallOwn
import KE.KFmtOwn
import HandS.Style
import PyProof.FactsAll.object_2
import HandS.More
import HandS.NoneIn
import HandS.Text
import HandS.Iter
import HandS.TupAny
import HandS.Deep
import HandS.Conv
import HandS.Comp
import HandS.Star
import HandS.SortInts
import HandS.ClsMeth
import KE.DataMinMax
import HandS.SortKw
import KE.GoesNew
import KE.KDictZip
import KE.GoesMore
import KE.GoesEnum
import KE.GoesRaise
import PyProof.LongRange
import PyProof.GenRules
import PyProof.GenQ
import HandS.GenOver
import HandS.GenList
import HandS.Strs
import HandS.SetBool
import HandS.SetFor
set_option Elab.async false
set_option linter.all false
set_option maxRecDepth 100000
set_option maxHeartbeats 4000000
/-! What is asked of the head: where things stand, by names; facts; defs; the Hook. It stands ahead of all else, so that the top's run is checked while memory is still free. -/
namespace DL
open PySem PySem.Spec PyProof.Rows L2
/-! ### where things stand, by names -/
/-- what a record (a property, a staticmethod, a classmethod) holds first -/
def recFn (K : PySem.W.Frag) (T : String) (p : Addr) : Addr := match PySem.W.recIn K p T with
  | some (.ref f :: _) => f
  | _ => 0
/-- the record behind a static method -/
def staP (K : PySem.W.Frag) (C : Str) (m : Str) : Addr := match PySem.W.findCls K (.ref (He.ga K C)) (.type "type") m with
  | some (.get _ (.ref p) _ _) => p
  | _ => 0
inductive Ad where
  | glo (x : Str)
  | meth (C m : Str)
  | prop (C m : Str)
  | stat (C m : Str)
  | clm (C m : Str)
def Ad.at_ (K : PySem.W.Frag) : Ad → Addr
  | .glo x => He.ga K x
  | .meth C m => He.ma K (He.ga K C) m
  | .prop C m => recFn K "property" (He.ma K (He.ga K C) m)
  | .stat C m => recFn K "staticmethod" (staP K C m)
  | .clm C m => recFn K "classmethod" (staP K C m)
/-! ### facts -/
inductive Fk where
  | he (f : He.Fa)
  | atr (C m : Str)              -- a class's attribute is an object
  | fn (a : Ad)
  | keep (a : Ad)
  | rec_ (T : String) (p : PySem.W.Frag → Addr)
  | b (f : PySem.W.Frag → Bool)
def recB (K : PySem.W.Frag) (T : String) (p : Addr) : Bool := match PySem.W.recIn K p T with
  | some (.ref _ :: _) => true
  | _ => false
theorem recB_ok {K : PySem.W.Frag} {T : String} {p : Addr} (h : recB K T p = true) : ∃ rest, PySem.W.recIn K p T = some (.ref (recFn K T p) :: rest) := by
  unfold recB at h
  unfold recFn
  split at h
  · rename_i a rest e
    exact ⟨rest, by rw [e]⟩
  · cases h
def staB (K : PySem.W.Frag) (C m : Str) : Bool := match PySem.W.findCls K (.ref (He.ga K C)) (.type "type") m with
  | some (.get (.builtin id) (.ref _) .none (.ref D)) => decide (id = "staticmethod.__get__") && decide (D = He.ga K C)
  | _ => false
theorem staB_ok {K : PySem.W.Frag} {C m : Str} (h : staB K C m = true) : PySem.W.findCls K (.ref (He.ga K C)) (.type "type") m = some (.get (.builtin "staticmethod.__get__") (.ref (staP K C m)) .none (.ref (He.ga K C))) := by
  unfold staB at h
  unfold staP
  split at h
  · rename_i id p D e
    obtain ⟨h1, h2⟩ := He.ba h
    have e1 := of_decide_eq_true h1
    have e2 := of_decide_eq_true h2
    subst e1 e2
    rw [e]
  · cases h
def clmB (K : PySem.W.Frag) (C m : Str) : Bool := match PySem.W.findCls K (.ref (He.ga K C)) (.type "type") m with
  | some (.get (.builtin id) (.ref _) .none (.ref D)) => decide (id = "classmethod.__get__") && decide (D = He.ga K C)
  | _ => false
theorem clmB_ok {K : PySem.W.Frag} {C m : Str} (h : clmB K C m = true) : PySem.W.findCls K (.ref (He.ga K C)) (.type "type") m = some (.get (.builtin "classmethod.__get__") (.ref (staP K C m)) .none (.ref (He.ga K C))) := by
  unfold clmB at h
  unfold staP
  split at h
  · rename_i id p D e
    obtain ⟨h1, h2⟩ := He.ba h
    have e1 := of_decide_eq_true h1
    have e2 := of_decide_eq_true h2
    subst e1 e2
    rw [e]
  · cases h
/-- a whole number in a class -/
def conB (K : PySem.W.Frag) (C f : Str) (n : Int) : Bool := match PySem.W.findCls K (.ref (He.ga K C)) (.type "type") f with
  | some (.val (.int k _)) => decide (k = n)
  | _ => false
theorem conB_ok {K : PySem.W.Frag} {C f : Str} {n : Int} (h : conB K C f n = true) : ∃ t, PySem.W.findCls K (.ref (He.ga K C)) (.type "type") f = some (.val (.int n t)) := by
  unfold conB at h
  split at h
  · rename_i k t e
    obtain rfl := of_decide_eq_true h
    exact ⟨t, e⟩
  · cases h
theorem eqO_of {a b : Option (Option Value)} (h : He.eqO a b = true) : a = b := He.eqO_ok h
/-! ### defs -/
abbrev FnK : Type := Option (Str × Str × Arguments × FuncBody × Scope × Addr × List (Str × Addr) × Addr)
def fnK (K : PySem.W.Frag) (a : Addr) : FnK := match K.lookup a with
  | some ⟨_, _, .func g, _⟩ => some (g.name, g.qualname, g.params, g.body, g.scope, g.globals, g.closure, g.builtins)
  | _ => none
structure DefK where
  ad : Ad
  name : Str
  qual : Str
  params : Arguments
  body : List Stmt
  scope : Scope
  dfl : List V := []
  kws : List (Str × V) := []
def DefK.seen (d : DefK) : FnK := some (d.name, d.qual, d.params, .stmts d.body, d.scope, mainGlobals, [], builtinsNs)
def DefK.okB (K : PySem.W.Frag) (d : DefK) : Bool := PySem.W.keepIn K (.ref (d.ad.at_ K)) && (match K.lookup (d.ad.at_ K) with
  | some ⟨_, _, .func g, _⟩ => PySem.W.codeIn K g.code d.qual && (He.dflB K g.defaults d.dfl && He.kwdB K g.kwdefaults d.kws)
  | _ => false)
/-! ### the Hook -/
abbrev AlK : Type := Bool × List FnK
def obsK (fs : List (PySem.W.Frag → Bool)) (ds : List DefK) (K : PySem.W.Frag) : AlK := ((fs.all fun f => f K) && ds.all fun d => d.okB K, ds.map fun d => fnK K (d.ad.at_ K))
def valK (ds : List DefK) : AlK := (true, ds.map DefK.seen)
def SaysK (fs : List (PySem.W.Frag → Bool)) (ds : List DefK) (K : PySem.W.Frag) : Prop := obsK fs ds K = valK ds
/-- what an object names that is looked at: a namespace's values, a class's namespace, a function's code and defaults, a record's function -/
def refK (o : Obj) : List Addr := match o.data with
  | .dict es _ => es.toList.flatMap fun e => He.refV e.val
  | .cls cd => [cd.ns]
  | .func fd => He.refV fd.code ++ He.refV fd.defaults
  | .fields vs => (match o.cls with
    | .type c => (match decide (c = "property") || (decide (c = "staticmethod") || decide (c = "classmethod")) with
      | true => vs.toList.flatMap He.refV
      | false => [])
    | _ => [])
  | _ => []
def nextK (g : Addr → Option Obj) (l : List Addr) : List Addr := l.flatMap fun a => match g a with
  | some o => refK o
  | none => []
def asK (g : Addr → Option Obj) : Nat → List Addr → List Addr
  | 0, l => l
  | n + 1, l => l ++ asK g n (nextK g l)
def obsKG (n : Nat) (fs : List (PySem.W.Frag → Bool)) (ds : List DefK) (g : Addr → Option Obj) : AlK := obsK fs ds (He.frG g (asK g n [mainGlobals]))
def hookK (n : Nat) (fs : List (PySem.W.Frag → Bool)) (ds : List DefK) : PySem.W.Hook where
  α := AlK
  obs := fun s => obsKG n fs ds s.heap.get?
  val := fun _ => valK ds
  says := fun _ h => ∃ K : PySem.W.Frag, K.In h ∧ SaysK fs ds K
  of := fun _ _ e => ⟨_, He.frG_in, e⟩
  keeps := fun _ _ _ ⟨K, hK, c⟩ k => ⟨K, PySem.W.Frag.In.keeps hK k, c⟩
theorem obsKG_eq {n : Nat} {fs : List (PySem.W.Frag → Bool)} {ds : List DefK} {g : Addr → Option Obj} {s : Shared} (h : ∀ a, g a = s.heap.get? a) : obsKG n fs ds g = (hookK n fs ds).obs s := by
  obtain rfl : g = s.heap.get? := funext h
  rfl
/-! ### where a lambda stands in a text -/
def subE : Expr → List Expr
  | .List es _ => es
  | .Tuple es _ _ => es
  | .Call f es _ _ => f :: es
  | .BinOp a _ b _ => [a, b]
  | .BoolOp _ es _ => es
  | .Compare a _ bs _ => a :: bs
  | .Subscript a b _ => [a, b]
  | .IfExp c a b _ => [c, a, b]
  | .UnaryOp _ a _ => [a]
  | .Starred a _ => [a]
  | .Attribute a _ _ => [a]
  | _ => []
def subS : Stmt → List Expr
  | .Assign _ v _ => [v]
  | .Return (some v) _ => [v]
  | .Expr v _ => [v]
  | .If c _ _ _ => [c]
  | _ => []
def bodS : Stmt → List Stmt
  | .If _ b o _ => b ++ o
  | .For _ _ b o _ => b ++ o
  | .While _ b o _ => b ++ o
  | .FunctionDef .. => []
  | _ => []
def exAt (e : Expr) : List Nat → Expr
  | [] => e
  | i :: r => exAt ((subE e).getD i e) r
def stAt (s : Stmt) : List Nat → Stmt
  | [] => s
  | i :: r => stAt ((bodS s).getD i s) r
def lamP : Expr → Arguments
  | .Lambda p _ _ _ => p
  | _ => ⟨[], [], none, [], [], none, []⟩
def lamB : Expr → Expr
  | .Lambda _ b _ _ => b
  | e => e
def lamS : Expr → Scope
  | .Lambda _ _ s _ => s
  | _ => default
/-! ### code objects and their tables -/
def funCodeA (K : PySem.W.Frag) (f : Addr) : Value := match K.lookup f with
  | some ⟨_, _, .func fd, _⟩ => fd.code
  | _ => .none
def codeA (K : PySem.W.Frag) (f : Addr) : Addr := match funCodeA K f with
  | .ref c => c
  | _ => 0
def tabA (K : PySem.W.Frag) (f : Addr) : Addr := match K.lookup (codeA K f) with
  | some ⟨_, _, .fields vs, _⟩ => (match vs.getD 11 .none with
    | .ref P => P
    | _ => 0)
  | _ => 0
def codeB (K : PySem.W.Frag) (f : Addr) : Bool := match funCodeA K f with
  | .ref c => (match K.lookup c with
    | some ⟨.type t, _, .fields vs, _⟩ => decide (t = "code") && (match vs.getD 11 .none, vs.getD 18 .none, vs.getD 7 .none, vs.getD 9 .none, vs.getD 10 .none with
      | .ref P, .str _ _, .int _ _, .bool _, .int _ _ => decide (11 < vs.size) && (decide (c ≠ P) && (K.lookup P).isNone)
      | _, _, _, _, _ => false)
    | _ => false)
  | _ => false
def emptyT : Option Obj → Bool
  | some ⟨.none, none, .fields a, sl⟩ => a.isEmpty && sl.isEmpty
  | _ => false
theorem emptyT_ok {o : Option Obj} (h : emptyT o = true) : o = some { cls := .none, data := .fields #[] } := by
  unfold emptyT at h
  split at h
  · obtain ⟨h1, h2⟩ := He.ba h
    rw [Array.isEmpty_iff] at h1 h2
    subst h1 h2
    rfl
  · cases h
/-! ### defs that hold __class__ -/
abbrev FnKS : Type := Option (Str × Str × Arguments × FuncBody × Scope × Addr × List Str × Addr)
def fnKS (K : PySem.W.Frag) (a : Addr) : FnKS := match K.lookup a with
  | some ⟨_, _, .func g, _⟩ => some (g.name, g.qualname, g.params, g.body, g.scope, g.globals, g.closure.map (·.1), g.builtins)
  | _ => none
def celA (K : PySem.W.Frag) (a : Addr) : Addr := match K.lookup a with
  | some ⟨_, _, .func g, _⟩ => (match g.closure with
    | (_, c) :: _ => c
    | [] => 0)
  | _ => 0
structure DefS where
  ad : Ad
  name : Str
  qual : Str
  params : Arguments
  body : List Stmt
  scope : Scope
  cl : Str
  file : Str
def DefS.seen (d : DefS) : FnKS := some (d.name, d.qual, d.params, .stmts d.body, d.scope, mainGlobals, ["__class__"], builtinsNs)
def fileB (K : PySem.W.Frag) (file : Str) (v : Value) : Bool := match v with
  | .ref c => (match K.lookup c with
    | some ⟨_, _, .fields vs, _⟩ => (match vs.getD 2 .none with
      | .str f _ => decide (2 < vs.size) && (file == f)
      | _ => false)
    | _ => false)
  | _ => false
def DefS.okB (K : PySem.W.Frag) (d : DefS) : Bool := PySem.W.keepIn K (.ref (d.ad.at_ K)) && ((match K.lookup (celA K (d.ad.at_ K)) with
    | some ⟨_, _, .cell (some (.ref D)), _⟩ => decide (D = He.ga K d.cl) && (PySem.W.clsIn K D).isSome
    | _ => false) && (match K.lookup (d.ad.at_ K) with
  | some ⟨_, _, .func g, _⟩ => PySem.W.codeIn K g.code d.qual && (He.dflB K g.defaults [] && fileB K d.file g.code)
  | _ => false))
/-! ### the Hook -/
def refK2 (o : Obj) : List Addr := match o.data with
  | .dict es _ => es.toList.flatMap fun e => He.refV e.val
  | .cls cd => [cd.ns]
  | .func fd => He.refV fd.code ++ (He.refV fd.defaults ++ (He.refV fd.kwdefaults ++ fd.closure.map (·.2)))
  | .cell (some v) => He.refV v
  | .fields vs => (match o.cls with
    | .type c => (match decide (c = "property") || (decide (c = "staticmethod") || decide (c = "classmethod")) with
      | true => vs.toList.flatMap He.refV
      | false => [])
    | _ => [])
  | _ => []
def nextK2 (g : Addr → Option Obj) (l : List Addr) : List Addr := l.flatMap fun a => match g a with
  | some o => refK2 o
  | none => []
def asK2 (g : Addr → Option Obj) : Nat → List Addr → List Addr
  | 0, l => l
  | n + 1, l => l ++ asK2 g n (nextK2 g l)
def isClsO : Option Obj → Bool
  | some ⟨_, _, .cls _, _⟩ => true
  | _ => false
/-- the places that are looked at, those asked for most often first -/
def asX2 (g : Addr → Option Obj) (l1 : List Addr) (cl ns at_ fu c1 : List Addr) : List Addr := [mainGlobals, cStatics] ++ (cl ++ (ns ++ (at_ ++ (fu ++ (c1 ++ (nextK2 g fu ++ (nextK2 g c1 ++ nextK2 g (nextK2 g fu))))))))
def asX1 (g : Addr → Option Obj) (l1 cl fu : List Addr) : List Addr := asX2 g l1 cl (nextK2 g cl) (nextK2 g (nextK2 g cl)) fu (nextK2 g (nextK2 g (nextK2 g cl)))
def asX0 (g : Addr → Option Obj) (l1 : List Addr) : List Addr := asX1 g l1 (l1.filter fun a => isClsO (g a)) (l1.filter fun a => !isClsO (g a))
def asX (g : Addr → Option Obj) (_ : Nat) : List Addr := asX0 g (nextK2 g [mainGlobals, cStatics])
/-- what is asked of the head: facts, defs, defs that hold __class__, makers of lambdas -/
structure Hd where
  fs : List (PySem.W.Frag → Bool)
  ds : List DefK
  ss : List DefS
  ms : List Str
/-- the name that a def's code object tells -/
def codeQ (K : PySem.W.Frag) (a : Addr) : Option Str := match K.lookup a with
  | some ⟨_, _, .func g, _⟩ => (match g.code with
    | .ref c => (match K.lookup c with
      | some ⟨_, _, .fields vs, _⟩ => (match vs.toList with
        | _ :: .str n _ :: _ => some n
        | _ => none)
      | _ => none)
    | _ => none)
  | _ => none
def DefK.okB1 (K : PySem.W.Frag) (d : DefK) : Bool := PySem.W.keepIn K (.ref (d.ad.at_ K)) && (match K.lookup (d.ad.at_ K) with
  | some ⟨_, _, .func g, _⟩ => He.dflB K g.defaults d.dfl && He.kwdB K g.kwdefaults d.kws
  | _ => false)
theorem okB_of {K : PySem.W.Frag} {d : DefK} (h1 : d.okB1 K = true) (h2 : codeQ K (d.ad.at_ K) = some d.qual) : d.okB K = true := by
  unfold DefK.okB1 at h1
  obtain ⟨a1, a2⟩ := He.ba h1
  unfold DefK.okB
  rw [a1, Bool.true_and]
  unfold codeQ at h2
  revert a2 h2
  cases K.lookup (d.ad.at_ K) with
  | none => intro a _; cases a
  | some o =>
    obtain ⟨o1, o2, od, o3⟩ := o
    cases od with
    | func g =>
      intro h2 a2
      dsimp only at a2 h2 ⊢
      rw [a2, Bool.and_true]
      unfold PySem.W.codeIn
      revert h2
      cases g.code with
      | ref cc =>
        intro h2
        dsimp only at h2 ⊢
        revert h2
        cases K.lookup cc with
        | none => intro h; cases h
        | some o =>
          obtain ⟨p1, p2, pd, p3⟩ := o
          cases pd with
          | fields vs =>
            intro h2
            dsimp only at h2 ⊢
            split at h2
            · rename_i n t r e
              obtain rfl := Option.some.inj h2
              simp only [e, beq_self_eq_true]
            · cases h2
          | _ => intro h; cases h
      | _ => intro h; cases h
    | _ => intro a; cases a
abbrev AlX : Type := Bool × List FnK × List FnKS × List (Option Str)
def Hd.obsK (q : Hd) (g : Addr → Option Obj) (K : PySem.W.Frag) : AlX :=
  ((q.fs.all fun f => f K) && ((q.ds.all fun d => d.okB1 K) && ((q.ss.all fun d => d.okB K) && (q.ms.all fun x => codeB K (He.ga K x) && emptyT (g (tabA K (He.ga K x)))))), q.ds.map fun d => fnK K (d.ad.at_ K), q.ss.map fun d => fnKS K (d.ad.at_ K), q.ds.map fun d => codeQ K (d.ad.at_ K))
def Hd.val (q : Hd) : AlX := (true, q.ds.map DefK.seen, q.ss.map DefS.seen, q.ds.map fun d => some d.qual)
def Hd.obsG (q : Hd) (n : Nat) (g : Addr → Option Obj) : AlX := q.obsK g (He.frG g (asX g n))
/-- what is known of a written part K of the heap h -/
structure Hd.Says (q : Hd) (h : Heap) (K : PySem.W.Frag) : Prop where
  kin : K.In h
  fs : ∀ f ∈ q.fs, f K = true
  ds : ∀ d ∈ q.ds, d.okB K = true
  ss : ∀ d ∈ q.ss, d.okB K = true
  ms : ∀ x ∈ q.ms, codeB K (He.ga K x) = true ∧ h.get? (tabA K (He.ga K x)) = some { cls := .none, data := .fields #[] }
  dk : q.ds.map (fun d => fnK K (d.ad.at_ K)) = q.ds.map DefK.seen
  sk : q.ss.map (fun d => fnKS K (d.ad.at_ K)) = q.ss.map DefS.seen
def Hd.hook (q : Hd) (n : Nat) : PySem.W.Hook where
  α := AlX
  obs := fun s => q.obsG n s.heap.get?
  val := fun _ => q.val
  says := fun _ h => ∃ K : PySem.W.Frag, q.Says h K
  of := fun _ s e => by
    have e : q.obsK s.heap.get? (He.frG s.heap.get? (asX s.heap.get? n)) = q.val := e
    generalize hK : He.frG s.heap.get? (asX s.heap.get? n) = K at e
    have e1 := congrArg Prod.fst e
    have e2 := congrArg (fun z : AlX => z.2.1) e
    have e3 := congrArg (fun z : AlX => z.2.2.1) e
    have e4 : (q.ds.map fun d => codeQ K (d.ad.at_ K)) = q.ds.map fun d => some d.qual := congrArg (fun z : AlX => z.2.2.2) e
    have e1 : ((q.fs.all fun f => f K) && ((q.ds.all fun d => d.okB1 K) && ((q.ss.all fun d => d.okB K) && (q.ms.all fun x => codeB K (He.ga K x) && emptyT (s.heap.get? (tabA K (He.ga K x))))))) = true := e1
    obtain ⟨a1, e1⟩ := He.ba e1
    obtain ⟨a2, e1⟩ := He.ba e1
    obtain ⟨a3, a4⟩ := He.ba e1
    refine ⟨K, by rw [← hK]; exact He.frG_in, List.all_eq_true.mp a1, fun d hd => okB_of (List.all_eq_true.mp a2 d hd) (List.map_inj_left.mp e4 d hd), List.all_eq_true.mp a3, fun x hx => ?_, e2, e3⟩
    obtain ⟨b1, b2⟩ := He.ba (List.all_eq_true.mp a4 x hx)
    exact ⟨b1, emptyT_ok b2⟩
  keeps := fun _ _ _ ⟨K, c⟩ k => ⟨K, PySem.W.Frag.In.keeps c.kin k, c.fs, c.ds, c.ss, fun x hx => ⟨(c.ms x hx).1, k _ _ (c.ms x hx).2⟩, c.dk, c.sk⟩
theorem Hd.obs_eq {q : Hd} {n : Nat} {g : Addr → Option Obj} {s : Shared} (h : ∀ a, g a = s.heap.get? a) : q.obsG n g = (q.hook n).obs s := by
  obtain rfl : g = s.heap.get? := funext h
  rfl
/-! ### the top's run in parts: each part is checked by itself, so that no check holds all of it -/
open PySem.W PySem.Calls in
noncomputable def EndE (r : PySem.W.OpenRow) (M : Nat) (w : World) (os : OsState) : Option PySem.W.SharedT := HandSHeadRun.endF (HandSHeadRun.stepQ (HandSHeadRun.denQ HandSHeadRun.tabQ) r.prog w) M r.prog w os
open PySem.W PySem.Calls in
def LookE (r : PySem.W.OpenRow) (M : Nat) (w : World) : Prop := ∀ os : OsState, (EndE r M w os).map (fun s => HandSHeadRun.looksF r.prog (boot_heap w.params) s.abs) = some true
open PySem.W PySem.Calls in
def SeenE (r : PySem.W.OpenRow) (q : Program) (M : Nat) (loose : List PySem.Str) (w : World) : Prop := ∀ os : OsState, (EndE r M w os).map (fun s => HandSHeadRun.seenQ q loose (importedModules r.prog.main.body) (fun s => xlAt q [] s && recOk r.toRowW.records s) s.abs) = some (openGood q loose)
def AskE (r : PySem.W.OpenRow) (Q : Hd) (M : Nat) (w : World) : Prop := ∀ os : OsState, (EndE r M w os).map (fun s => Q.obsG 5 (HandSHeadRun.getT s)) = some Q.val
theorem ba_of {a b : Bool} (h1 : a = true) (h2 : b = true) : (a && b) = true := by rw [h1, h2]; rfl
/-- two parts of what is asked -/
def Hd.app (a b : Hd) : Hd := ⟨a.fs ++ b.fs, a.ds ++ b.ds, a.ss ++ b.ss, a.ms ++ b.ms⟩
theorem Hd.val_iff {q : Hd} {g : Addr → Option Obj} {K : PySem.W.Frag} : q.obsK g K = q.val ↔ (((q.fs.all fun f => f K) && ((q.ds.all fun d => d.okB1 K) && ((q.ss.all fun d => d.okB K) && (q.ms.all fun x => codeB K (He.ga K x) && emptyT (g (tabA K (He.ga K x))))))) = true ∧ q.ds.map (fun d => fnK K (d.ad.at_ K)) = q.ds.map DefK.seen ∧ q.ss.map (fun d => fnKS K (d.ad.at_ K)) = q.ss.map DefS.seen ∧ (q.ds.map fun d => codeQ K (d.ad.at_ K)) = q.ds.map fun d => some d.qual) := by
  unfold Hd.obsK Hd.val
  rw [Prod.mk.injEq, Prod.mk.injEq, Prod.mk.injEq]
theorem Hd.join {a b : Hd} {g : Addr → Option Obj} {K : PySem.W.Frag} (h1 : a.obsK g K = a.val) (h2 : b.obsK g K = b.val) : (a.app b).obsK g K = (a.app b).val := by
  rw [Hd.val_iff] at h1 h2 ⊢
  obtain ⟨a1, a2, a3, a4⟩ := h1
  obtain ⟨b1, b2, b3, b4⟩ := h2
  obtain ⟨p1, a1⟩ := He.ba a1
  obtain ⟨p2, a1⟩ := He.ba a1
  obtain ⟨p3, p4⟩ := He.ba a1
  obtain ⟨r1, b1⟩ := He.ba b1
  obtain ⟨r2, b1⟩ := He.ba b1
  obtain ⟨r3, r4⟩ := He.ba b1
  unfold Hd.app
  dsimp only
  refine ⟨?_, ?_, ?_, ?_⟩
  · rw [List.all_append, List.all_append, List.all_append, List.all_append]
    exact ba_of (ba_of p1 r1) (ba_of (ba_of p2 r2) (ba_of (ba_of p3 r3) (ba_of p4 r4)))
  · rw [List.map_append, List.map_append, a2, b2]
  · rw [List.map_append, List.map_append, a3, b3]
  · rw [List.map_append, List.map_append, a4, b4]
theorem AskE.join {r : PySem.W.OpenRow} {a b : Hd} {M : Nat} {w : World} (h1 : AskE r a M w) (h2 : AskE r b M w) : AskE r (a.app b) M w := fun os => by
  have k1 := h1 os
  have k2 := h2 os
  cases e : EndE r M w os with
  | none => rw [e] at k1; cases k1
  | some s =>
    rw [e] at k1 k2
    have k1 := Option.some.inj k1
    have k2 := Option.some.inj k2
    exact congrArg some (Hd.join k1 k2)
theorem runE {r : PySem.W.OpenRow} {q : Program} {Q : Hd} {M : Nat} {loose : List PySem.Str} {w : World} (h1 : LookE r M w) (h2 : SeenE r q M loose w) (h3 : AskE r Q M w) : HandSHeadRun.RunEq r q (Q.hook 5) (fun s => Q.obsG 5 (HandSHeadRun.getT s)) M loose w := fun os => by
  have k1 := h1 os
  have k2 := h2 os
  have k3 := h3 os
  unfold EndE at k1 k2 k3
  obtain ⟨E, hE⟩ : ∃ E, HandSHeadRun.endF (HandSHeadRun.stepQ (HandSHeadRun.denQ HandSHeadRun.tabQ) r.prog w) M r.prog w os = E := ⟨_, rfl⟩
  rw [hE] at k1 k2 k3 ⊢
  cases E with
  | none => cases k1
  | some s =>
    have k1 := Option.some.inj k1
    have k2 := Option.some.inj k2
    have k3 := Option.some.inj k3
    exact congrArg some (Prod.ext k1 (Prod.ext k2 k3))
end DL

set_option maxHeartbeats 0
namespace W
open PySem PySem.Spec PyProof.Rows L2 DL
def topS (i : Nat) : Stmt := PySem.Challenge.pw_bothgreen_k52_whole_gaps_of_spaced_momen.main.body.getD i (.Pass ⟨0, 0, 0, 0⟩)
abbrev s_w_begin : Stmt := (topS 23)
abbrev s_w_take : Stmt := (topS 24)
abbrev s_w_gap_rows : Stmt := (topS 30)
abbrev s_is_whole : Stmt := (topS 6)
abbrev s_is_number : Stmt := (topS 7)
abbrev s_is_ratio : Stmt := (topS 14)
abbrev s_need_ratio : Stmt := (topS 17)
abbrev s_Ratio_bottom : Stmt := (inClass (topS 13) 3)
abbrev s_common_divisor : Stmt := (topS 11)
abbrev s_RatioD_initD : Stmt := (inClass (topS 13) 0)
abbrev s_Ratio_moment : Stmt := (inClass (topS 13) 10)
abbrev s_Ratio_top : Stmt := (inClass (topS 13) 2)
abbrev s_nearest_steps : Stmt := (topS 18)
abbrev s_gaps_between : Stmt := (topS 19)
abbrev s_gap_widths : Stmt := (topS 20)
abbrev s_w_divisor : Stmt := (topS 26)
abbrev s_w_frac : Stmt := (topS 27)
abbrev s_w_parts : Stmt := (topS 28)
abbrev s_w_like : Stmt := (topS 25)
abbrev s_greatest_gap : Stmt := (topS 21)
abbrev s_w_is : Stmt := (topS 29)
abbrev s_law : Stmt := (topS 31)
end W

set_option maxHeartbeats 0
namespace W
open PySem PySem.Spec PyProof.Rows L2 DL
abbrev dk0 : DefK := ⟨.glo "_law_begin", "_law_begin", "_law_begin", defArgs s_w_begin, defBody s_w_begin, defScope s_w_begin, [], []⟩
abbrev dk1 : DefK := ⟨.glo "_law_take", "_law_take", "_law_take", defArgs s_w_take, defBody s_w_take, defScope s_w_take, [], []⟩
abbrev dk2 : DefK := ⟨.glo "_law_gap_rows", "_law_gap_rows", "_law_gap_rows", defArgs s_w_gap_rows, defBody s_w_gap_rows, defScope s_w_gap_rows, [], []⟩
abbrev dk3 : DefK := ⟨.glo "is_whole", "is_whole", "is_whole", defArgs s_is_whole, defBody s_is_whole, defScope s_is_whole, [], []⟩
abbrev dk4 : DefK := ⟨.glo "is_number", "is_number", "is_number", defArgs s_is_number, defBody s_is_number, defScope s_is_number, [.int 0, .non], []⟩
abbrev dk5 : DefK := ⟨.glo "is_ratio", "is_ratio", "is_ratio", defArgs s_is_ratio, defBody s_is_ratio, defScope s_is_ratio, [], []⟩
abbrev dk6 : DefK := ⟨.glo "need_ratio", "need_ratio", "need_ratio", defArgs s_need_ratio, defBody s_need_ratio, defScope s_need_ratio, [], []⟩
abbrev dk7 : DefK := ⟨.prop "Ratio" "bottom", "bottom", "Ratio.bottom", defArgs s_Ratio_bottom, defBody s_Ratio_bottom, defScope s_Ratio_bottom, [], []⟩
abbrev dk8 : DefK := ⟨.glo "common_divisor", "common_divisor", "common_divisor", defArgs s_common_divisor, defBody s_common_divisor, defScope s_common_divisor, [], []⟩
abbrev dk9 : DefK := ⟨.meth "Ratio" "__init__", "__init__", "Ratio.__init__", defArgs s_RatioD_initD, defBody s_RatioD_initD, defScope s_RatioD_initD, [.int 1], []⟩
abbrev dk10 : DefK := ⟨.meth "Ratio" "moment", "moment", "Ratio.moment", defArgs s_Ratio_moment, defBody s_Ratio_moment, defScope s_Ratio_moment, [], []⟩
abbrev dk11 : DefK := ⟨.prop "Ratio" "top", "top", "Ratio.top", defArgs s_Ratio_top, defBody s_Ratio_top, defScope s_Ratio_top, [], []⟩
abbrev dk12 : DefK := ⟨.glo "nearest_steps", "nearest_steps", "nearest_steps", defArgs s_nearest_steps, defBody s_nearest_steps, defScope s_nearest_steps, [], []⟩
abbrev dk13 : DefK := ⟨.glo "gaps_between", "gaps_between", "gaps_between", defArgs s_gaps_between, defBody s_gaps_between, defScope s_gaps_between, [], []⟩
abbrev dk14 : DefK := ⟨.glo "gap_widths", "gap_widths", "gap_widths", defArgs s_gap_widths, defBody s_gap_widths, defScope s_gap_widths, [], []⟩
abbrev dk15 : DefK := ⟨.glo "_law_divisor", "_law_divisor", "_law_divisor", defArgs s_w_divisor, defBody s_w_divisor, defScope s_w_divisor, [], []⟩
abbrev dk16 : DefK := ⟨.glo "_law_frac", "_law_frac", "_law_frac", defArgs s_w_frac, defBody s_w_frac, defScope s_w_frac, [], []⟩
abbrev dk17 : DefK := ⟨.glo "_law_parts", "_law_parts", "_law_parts", defArgs s_w_parts, defBody s_w_parts, defScope s_w_parts, [], []⟩
abbrev dk18 : DefK := ⟨.glo "_law_like", "_law_like", "_law_like", defArgs s_w_like, defBody s_w_like, defScope s_w_like, [], []⟩
abbrev dk19 : DefK := ⟨.glo "greatest_gap", "greatest_gap", "greatest_gap", defArgs s_greatest_gap, defBody s_greatest_gap, defScope s_greatest_gap, [], []⟩
abbrev dk20 : DefK := ⟨.glo "_law_is", "_law_is", "_law_is", defArgs s_w_is, defBody s_w_is, defScope s_w_is, [], []⟩
abbrev dk21 : DefK := ⟨.glo "law", "law", "law", defArgs s_law, defBody s_law, defScope s_law, [], []⟩
def q0 (K : PySem.W.Frag) : Bool := (He.Fa.glo "_law_begin").ok K
def q1 (K : PySem.W.Frag) : Bool := (He.Fa.glo "_law_take").ok K
def q2 (K : PySem.W.Frag) : Bool := (He.Fa.glo "_law_gap_rows").ok K
def q3 (K : PySem.W.Frag) : Bool := (He.Fa.glo "is_whole").ok K
def q4 (K : PySem.W.Frag) : Bool := (He.Fa.glo "is_number").ok K
def q5 (K : PySem.W.Frag) : Bool := (He.Fa.glo "is_ratio").ok K
def q6 (K : PySem.W.Frag) : Bool := (He.Fa.glo "need_ratio").ok K
def q7 (K : PySem.W.Frag) : Bool := He.eqO (PySem.W.specialIn K (.ref (He.ma K (He.ga K "Ratio") "bottom")) "__get__") (some (some (.builtin "property.__get__")))
def q8 (K : PySem.W.Frag) : Bool := decide (PySem.W.takesIn K (.ref (He.ma K (He.ga K "Ratio") "bottom")) = some true)
def q9 (K : PySem.W.Frag) : Bool := recB K "property" (He.ma K (He.ga K "Ratio") "bottom")
def q10 (K : PySem.W.Frag) : Bool := He.eqO (PySem.W.findIn K (.ref (He.ga K "Ratio")) "bottom") (some (some (.ref (He.ma K (He.ga K "Ratio") "bottom"))))
def q11 (K : PySem.W.Frag) : Bool := (He.Fa.glo "common_divisor").ok K
def q12 (K : PySem.W.Frag) : Bool := He.eqO (PySem.W.findIn K (.ref (He.ga K "Ratio")) "__init__") (some (some (.ref (He.ma K (He.ga K "Ratio") "__init__"))))
def q13 (K : PySem.W.Frag) : Bool := PySem.W.isFn K (.ref (He.ma K (He.ga K "Ratio") "__init__"))
def q14 (K : PySem.W.Frag) : Bool := He.eqO (PySem.W.findIn K (.ref (He.ga K "Ratio")) "moment") (some (some (.ref (He.ma K (He.ga K "Ratio") "moment"))))
def q15 (K : PySem.W.Frag) : Bool := PySem.W.isFn K (.ref (He.ma K (He.ga K "Ratio") "moment"))
def q16 (K : PySem.W.Frag) : Bool := He.eqO (PySem.W.specialIn K (.ref (He.ma K (He.ga K "Ratio") "top")) "__get__") (some (some (.builtin "property.__get__")))
def q17 (K : PySem.W.Frag) : Bool := decide (PySem.W.takesIn K (.ref (He.ma K (He.ga K "Ratio") "top")) = some true)
def q18 (K : PySem.W.Frag) : Bool := recB K "property" (He.ma K (He.ga K "Ratio") "top")
def q19 (K : PySem.W.Frag) : Bool := He.eqO (PySem.W.findIn K (.ref (He.ga K "Ratio")) "top") (some (some (.ref (He.ma K (He.ga K "Ratio") "top"))))
def q20 (K : PySem.W.Frag) : Bool := (He.Fa.glo "nearest_steps").ok K
def q21 (K : PySem.W.Frag) : Bool := (He.Fa.glo "gaps_between").ok K
def q22 (K : PySem.W.Frag) : Bool := (He.Fa.glo "gap_widths").ok K
def q23 (K : PySem.W.Frag) : Bool := (He.Fa.glo "_law_divisor").ok K
def q24 (K : PySem.W.Frag) : Bool := (He.Fa.glo "_law_frac").ok K
def q25 (K : PySem.W.Frag) : Bool := (He.Fa.glo "_law_parts").ok K
def q26 (K : PySem.W.Frag) : Bool := (He.Fa.glo "_law_like").ok K
def q27 (K : PySem.W.Frag) : Bool := (He.Fa.glo "greatest_gap").ok K
def q28 (K : PySem.W.Frag) : Bool := (He.Fa.glo "_law_is").ok K
def q29 (K : PySem.W.Frag) : Bool := (He.Fa.glo "law").ok K
def q30 (K : PySem.W.Frag) : Bool := (He.Fa.free "abs").ok K
def q31 (K : PySem.W.Frag) : Bool := (He.Fa.free "all").ok K
def q32 (K : PySem.W.Frag) : Bool := (He.Fa.free "bool").ok K
def q33 (K : PySem.W.Frag) : Bool := (He.Fa.free "int").ok K
def q34 (K : PySem.W.Frag) : Bool := (He.Fa.free "isinstance").ok K
def q35 (K : PySem.W.Frag) : Bool := (He.Fa.free "len").ok K
def q36 (K : PySem.W.Frag) : Bool := (He.Fa.free "list").ok K
def q37 (K : PySem.W.Frag) : Bool := (He.Fa.free "min").ok K
def q38 (K : PySem.W.Frag) : Bool := (He.Fa.free "range").ok K
def q39 (K : PySem.W.Frag) : Bool := (He.Fa.free "set").ok K
def q40 (K : PySem.W.Frag) : Bool := (He.Fa.free "sorted").ok K
def q41 (K : PySem.W.Frag) : Bool := (He.Fa.free "str").ok K
def q42 (K : PySem.W.Frag) : Bool := (He.Fa.free "tuple").ok K
def q43 (K : PySem.W.Frag) : Bool := (He.Fa.free "zip").ok K
def q44 (K : PySem.W.Frag) : Bool := (He.Fa.int "MOST_COUNT" 1000000000000000000000000000000).ok K
def q45 (K : PySem.W.Frag) : Bool := (He.Fa.cls "Ratio").ok K
def q46 (K : PySem.W.Frag) : Bool := (He.Fa.glo "Ratio").ok K
def q47 (K : PySem.W.Frag) : Bool := PySem.W.makesIn K (He.ga K "Ratio")
def q48 (K : PySem.W.Frag) : Bool := PySem.W.keepIn K (.ref (He.ga K "Ratio"))
def q49 (K : PySem.W.Frag) : Bool := (He.Fa.noat "Ratio" "own_bottom").ok K
def q50 (K : PySem.W.Frag) : Bool := (He.Fa.noat "Ratio" "own_top").ok K
def q51 (K : PySem.W.Frag) : Bool := He.eqO (PySem.W.specialIn K (.builtin "object.__class__") "__get__") (some (some (.builtin "getset_descriptor.__get__")))
def q52 (K : PySem.W.Frag) : Bool := decide (PySem.W.takesIn K (.builtin "object.__class__") = some true)
def q53 (K : PySem.W.Frag) : Bool := He.eqO (PySem.W.findIn K (.ref (He.ga K "Ratio")) "__class__") (some (some (.builtin "object.__class__")))
def q54 (K : PySem.W.Frag) : Bool := decide (PySem.W.mroIn K (He.ga K "Ratio") (.type "object") = some true)
def q55 (K : PySem.W.Frag) : Bool := decide (PySem.W.kitAny K (.type "NoneType") [.ref (He.ga K "Ratio")] = some false)
def q56 (K : PySem.W.Frag) : Bool := decide (PySem.W.kitAny K (.type "bool") [.ref (He.ga K "Ratio")] = some false)
def q57 (K : PySem.W.Frag) : Bool := decide (PySem.W.kitAny K (.type "int") [.ref (He.ga K "Ratio")] = some false)
def q58 (K : PySem.W.Frag) : Bool := decide (PySem.W.kitAny K (.type "str") [.ref (He.ga K "Ratio")] = some false)
def q59 (K : PySem.W.Frag) : Bool := decide (PySem.W.kitAny K (.type "tuple") [.ref (He.ga K "Ratio")] = some false)
def q60 (K : PySem.W.Frag) : Bool := decide (PySem.W.kitAny K (.type "list") [.ref (He.ga K "Ratio")] = some false)
def q61 (K : PySem.W.Frag) : Bool := decide (PySem.W.kitAny K (.ref (He.ga K "Ratio")) [.ref (He.ga K "Ratio")] = some true)
def q62 (K : PySem.W.Frag) : Bool := decide (PySem.W.kitAny K (.type "NoneType") [.type "bool"] = some false)
def q63 (K : PySem.W.Frag) : Bool := decide (PySem.W.kitAny K (.type "bool") [.type "bool"] = some true)
def q64 (K : PySem.W.Frag) : Bool := decide (PySem.W.kitAny K (.type "int") [.type "bool"] = some false)
def q65 (K : PySem.W.Frag) : Bool := decide (PySem.W.kitAny K (.type "str") [.type "bool"] = some false)
def q66 (K : PySem.W.Frag) : Bool := decide (PySem.W.kitAny K (.type "tuple") [.type "bool"] = some false)
def q67 (K : PySem.W.Frag) : Bool := decide (PySem.W.kitAny K (.type "list") [.type "bool"] = some false)
def q68 (K : PySem.W.Frag) : Bool := decide (PySem.W.kitAny K (.type "NoneType") [.type "int"] = some false)
def q69 (K : PySem.W.Frag) : Bool := decide (PySem.W.kitAny K (.type "bool") [.type "int"] = some true)
def q70 (K : PySem.W.Frag) : Bool := decide (PySem.W.kitAny K (.type "int") [.type "int"] = some true)
def q71 (K : PySem.W.Frag) : Bool := decide (PySem.W.kitAny K (.type "str") [.type "int"] = some false)
def q72 (K : PySem.W.Frag) : Bool := decide (PySem.W.kitAny K (.type "tuple") [.type "int"] = some false)
def q73 (K : PySem.W.Frag) : Bool := decide (PySem.W.kitAny K (.type "list") [.type "int"] = some false)
def q74 (K : PySem.W.Frag) : Bool := decide (PySem.W.kitAny K (.type "NoneType") [.type "list"] = some false)
def q75 (K : PySem.W.Frag) : Bool := decide (PySem.W.kitAny K (.type "bool") [.type "list"] = some false)
def q76 (K : PySem.W.Frag) : Bool := decide (PySem.W.kitAny K (.type "int") [.type "list"] = some false)
def q77 (K : PySem.W.Frag) : Bool := decide (PySem.W.kitAny K (.type "str") [.type "list"] = some false)
def q78 (K : PySem.W.Frag) : Bool := decide (PySem.W.kitAny K (.type "tuple") [.type "list"] = some false)
def q79 (K : PySem.W.Frag) : Bool := decide (PySem.W.kitAny K (.type "list") [.type "list"] = some true)
def q80 (K : PySem.W.Frag) : Bool := decide (PySem.W.kitAny K (.type "NoneType") [.type "list", .type "tuple"] = some false)
def q81 (K : PySem.W.Frag) : Bool := decide (PySem.W.kitAny K (.type "bool") [.type "list", .type "tuple"] = some false)
def q82 (K : PySem.W.Frag) : Bool := decide (PySem.W.kitAny K (.type "int") [.type "list", .type "tuple"] = some false)
def q83 (K : PySem.W.Frag) : Bool := decide (PySem.W.kitAny K (.type "str") [.type "list", .type "tuple"] = some false)
def q84 (K : PySem.W.Frag) : Bool := decide (PySem.W.kitAny K (.type "tuple") [.type "list", .type "tuple"] = some true)
def q85 (K : PySem.W.Frag) : Bool := decide (PySem.W.kitAny K (.type "list") [.type "list", .type "tuple"] = some true)
def q86 (K : PySem.W.Frag) : Bool := decide (PySem.W.kitAny K (.type "NoneType") [.type "str"] = some false)
def q87 (K : PySem.W.Frag) : Bool := decide (PySem.W.kitAny K (.type "bool") [.type "str"] = some false)
def q88 (K : PySem.W.Frag) : Bool := decide (PySem.W.kitAny K (.type "int") [.type "str"] = some false)
def q89 (K : PySem.W.Frag) : Bool := decide (PySem.W.kitAny K (.type "str") [.type "str"] = some true)
def q90 (K : PySem.W.Frag) : Bool := decide (PySem.W.kitAny K (.type "tuple") [.type "str"] = some false)
def q91 (K : PySem.W.Frag) : Bool := decide (PySem.W.kitAny K (.type "list") [.type "str"] = some false)
def q92 (K : PySem.W.Frag) : Bool := decide (PySem.W.kitAny K (.type "NoneType") [.type "tuple"] = some false)
def q93 (K : PySem.W.Frag) : Bool := decide (PySem.W.kitAny K (.type "bool") [.type "tuple"] = some false)
def q94 (K : PySem.W.Frag) : Bool := decide (PySem.W.kitAny K (.type "int") [.type "tuple"] = some false)
def q95 (K : PySem.W.Frag) : Bool := decide (PySem.W.kitAny K (.type "str") [.type "tuple"] = some false)
def q96 (K : PySem.W.Frag) : Bool := decide (PySem.W.kitAny K (.type "tuple") [.type "tuple"] = some true)
def q97 (K : PySem.W.Frag) : Bool := decide (PySem.W.kitAny K (.type "list") [.type "tuple"] = some false)
def fs0 : List (PySem.W.Frag → Bool) := [q0, q1, q2, q3, q4, q5, q6, q7, q8, q9, q10, q11, q12, q13, q14, q15, q16, q17, q18, q19, q20, q21, q22, q23, q24, q25, q26, q27, q28, q29]
def fs1 : List (PySem.W.Frag → Bool) := [q30, q31, q32, q33, q34, q35, q36, q37, q38, q39, q40, q41, q42, q43, q44, q45, q46, q47, q48, q49, q50, q51, q52, q53, q54, q55, q56, q57, q58, q59]
def fs2 : List (PySem.W.Frag → Bool) := [q60, q61, q62, q63, q64, q65, q66, q67, q68, q69, q70, q71, q72, q73, q74, q75, q76, q77, q78, q79, q80, q81, q82, q83, q84, q85, q86, q87, q88, q89]
def fs3 : List (PySem.W.Frag → Bool) := [q90, q91, q92, q93, q94, q95, q96, q97]
def fs : List (PySem.W.Frag → Bool) := fs0 ++ (fs1 ++ (fs2 ++ (fs3)))
def ds0 : List DefK := [dk0, dk1, dk2, dk3, dk4, dk5, dk6, dk7, dk8, dk9, dk10, dk11, dk12, dk13, dk14, dk15, dk16, dk17, dk18, dk19, dk20, dk21]
def ds : List DefK := ds0
def loose0 : List Str := ["_wall", "CycleError", "InvalidRatio", "InvalidNumber", "is_whole", "is_number", "LONGEST_TEXT", "FIGURES", "common_divisor", "whole_in", "Ratio", "is_ratio", "MOST_COUNT", "need_ratio", "nearest_steps", "gaps_between", "gap_widths", "greatest_gap", "_law_begin", "_law_take", "_law_like", "_law_divisor", "_law_frac", "_law_parts", "_law_is", "_law_gap_rows"]
def loose : List Str := loose0
abbrev R0 : PySem.W.OpenRow := PySem.W.OpenLaw.row PySem.Challenge.rw_bothgreen_k52_whole_gaps_of_spaced_momen
abbrev qv : Program := PySem.W.view R0.prog [31]
def ob (s : PySem.W.SharedT) : AlK := obsKG 5 fs ds (HandSHeadRun.getT s)
theorem ob_eq (s : PySem.W.SharedT) : ob s = (hookK 5 fs ds).obs s.abs := obsKG_eq (HandSHeadRun.getT_eq s)
theorem run (w : World) : HandSHeadRun.RunEq R0 qv (hookK 5 fs ds) ob 40000 loose w := by
  intro os
  kernel_rfl
end W

/-! A layer of pure values over HandS: what a piece of code computes is a function upon data; the abstract heap is out of sight. -/
namespace DL
open PySem PySem.Spec PyProof.Rows L2
/-- a lambda's text; ps: its parameters, dds: their defaults (numbers), free: the names that it takes from around -/
structure LamT where
  qual : Str
  params : Arguments
  body : Expr
  scope : Scope
  ps : List Str
  dds : List Int
  free : List Str
/-- the lambdas of a text, by number; the tables of code objects that their making writes (with the name that the code objects bear) -/
class LamTab where
  tab : Nat → LamT
  tbls : PySem.W.Frag → List (Addr × Str)
variable [LamTab]
/-- just this object stands at b -/
def pinO (b : Addr) (o : Obj) : HO := .ext fun h => h.get? b = some o
/-- an exception stands at a: its class, its fields -/
def XobAt (F : Hp) (C a : Addr) (vs : List (Str × V)) : Prop := ∃ (oe : Obj) (dx : Addr), F a = some (pinO a oe) ∧ oe.cls = .ref C ∧ oe.dict = some dx ∧ (∃ w, oe.data = .fields w) ∧ F dx = some (.xd vs)
/-- a lambda's object: its text, its cells g, its default values -/
def LamO (t : LamT) (g : List (Str × Addr)) (dV : Value) (c : Addr) (o : Obj) : Prop := ∃ (pm ctv : Value), o = { cls := .type "function", data := .func { name := "<lambda>", qualname := t.qual, params := t.params, body := .expr t.body, scope := t.scope, globals := mainGlobals, closure := g, defaults := dV, kwdefaults := .none, doc := .none, pyModule := pm, annotations := none, code := .ref c, closureTuple := ctv, builtins := builtinsNs } }
def LamD (F : Hp) (t : LamT) (dV : Value) : Prop := (t.dds = [] ∧ dV = .none) ∨ ∃ (T : Addr) (us : List Value), dV = .ref T ∧ F T = some (pinO T { cls := .type "tuple", data := .seq us.toArray }) ∧ Vals (t.dds.map V.int) us
/-- a lambda's object stands at a -/
def LamAt (F : Hp) (t : LamT) (g : List (Str × Addr)) (a : Addr) : Prop := ∃ (o : Obj) (dV : Value) (c : Addr), F a = some (pinO a o) ∧ LamO t g dV c o ∧ LamD F t dV ∧ F c = some (LamX.CodeO c t.qual) ∧ (∀ y z c, g.lookup y = some c → g.lookup z = some c → y = z) ∧ (∀ y ∈ t.scope.names, y.2 = .free → ∃ c, g.lookup y.1 = some c) ∧ ∀ y c, g.lookup y = some c → y ∈ t.free
/-- the cells g bear vs -/
def CelAt (F : Hp) (names : List Str) (g : List (Str × Addr)) (vs : List V) : Prop := ∀ (i : Nat) (y : Str) (v : V), names[i]? = some y → vs[i]? = some v → ∃ (c : Addr) (oc : Obj) (u : Value), g.lookup y = some c ∧ F c = some (pinO c oc) ∧ oc.data = .cell (some u) ∧ RelV v u

/-- a class: where it stands, its attributes' names in order -/
structure Kl where
  a : Addr
  ns : List Str
  deriving DecidableEq
/-- data: what a value means. loc n: the n-th mutable object of the store; val: any other value by itself; xob: an exception (as a value); lam: a lambda of this frame, g its cells; clo: a lambda handed on, with the values of its free names -/
inductive D where
  | non | bl (b : Bool) | int (i : Int) | str (x : Str)
  | tup (ds : List D) | lst (ds : List D)
  | obj (c : Kl) (ds : List D)
  | loc (n : Nat)
  | val (v : V)
  | xob (c : Kl) (ds : List D)
  | lam (k : Nat) (g : List (Str × Addr))
  | clo (k : Nat) (ds : List D)

mutual
inductive Rep (K : PySem.W.Frag) (ι : List Addr) (F : Hp) : D → V → Prop
  | non : Rep K ι F .non .non
  | bl (b : Bool) : Rep K ι F (.bl b) (.bl b)
  | int (i : Int) : Rep K ι F (.int i) (.int i)
  | str (x : Str) : Rep K ι F (.str x) (.str x)
  | tup {ds : List D} {a : Addr} {xs : List V} : SqT K F a xs → Reps K ι F ds xs → Rep K ι F (.tup ds) (.ref a)
  | lst {ds : List D} {a : Addr} {xs : List V} : SqL K F a xs → Reps K ι F ds xs → Rep K ι F (.lst ds) (.ref a)
  | obj {c : Kl} {ds : List D} {a dx : Addr} {vs : List (Str × V)} : F a = some (.ins c.a dx vs) → vs.map (·.1) = c.ns → Reps K ι F ds (vs.map (·.2)) → Rep K ι F (.obj c ds) (.ref a)
  | loc {n : Nat} {a : Addr} : ι[n]? = some a → Rep K ι F (.loc n) (.ref a)
  | val (v : V) : Rep K ι F (.val v) v
  | xob {c : Kl} {ds : List D} {a : Addr} {vs : List (Str × V)} : XobAt F c.a a vs → vs.map (·.1) = c.ns → Reps K ι F ds (vs.map (·.2)) → Rep K ι F (.xob c ds) (.ref a)
  | lam {k : Nat} {g : List (Str × Addr)} {a : Addr} : LamAt F (LamTab.tab k) g a → Rep K ι F (.lam k g) (.ref a)
  | clo {k : Nat} {ds : List D} {g : List (Str × Addr)} {a : Addr} {vs : List V} : LamAt F (LamTab.tab k) g a → CelAt F (LamTab.tab k).free g vs → Reps K ι F ds vs → Rep K ι F (.clo k ds) (.ref a)
inductive Reps (K : PySem.W.Frag) (ι : List Addr) (F : Hp) : List D → List V → Prop
  | nil : Reps K ι F [] []
  | cons {d : D} {v : V} {ds : List D} {vs : List V} : Rep K ι F d v → Reps K ι F ds vs → Reps K ι F (d :: ds) (v :: vs)
inductive RepF (K : PySem.W.Frag) (ι : List Addr) (F : Hp) : List (Str × D) → List (Str × V) → Prop
  | nil : RepF K ι F [] []
  | cons {f : Str} {d : D} {v : V} {fs : List (Str × D)} {vs : List (Str × V)} : Rep K ι F d v → RepF K ι F fs vs → RepF K ι F ((f, d) :: fs) ((f, v) :: vs)
end

/-- all that stood stands -/
def Ext (H H' : Hp) : Prop := ∀ a o, H a = some o → H' a = some o
theorem Ext.refl (H : Hp) : Ext H H := fun _ _ h => h
theorem Ext.trans {H H1 H2 : Hp} (a : Ext H H1) (b : Ext H1 H2) : Ext H H2 := fun c o h => b c o (a c o h)
theorem SqL.ext' {K : PySem.W.Frag} {H H' : Hp} {a : Addr} {xs : List V} (h : SqL K H a xs) (e : Ext H H') : SqL K H' a xs := by
  rcases h with (h | ⟨o, h⟩) | h
  · exact .inl (.inl (e _ _ h))
  · exact .inl (.inr ⟨o, e _ _ h⟩)
  · exact .inr h
theorem SqT.ext' {K : PySem.W.Frag} {H H' : Hp} {a : Addr} {xs : List V} (h : SqT K H a xs) (e : Ext H H') : SqT K H' a xs := by
  rcases h with (h | ⟨o, h⟩) | h
  · exact .inl (.inl (e _ _ h))
  · exact .inl (.inr ⟨o, e _ _ h⟩)
  · exact .inr h

theorem XobAt.ext {F F' : Hp} {C a : Addr} {vs : List (Str × V)} (h : XobAt F C a vs) (e : Ext F F') : XobAt F' C a vs := by
  obtain ⟨oe, dx, h1, h2, h3, h4, h5⟩ := h
  exact ⟨oe, dx, e _ _ h1, h2, h3, h4, e _ _ h5⟩
theorem LamAt.ext {F F' : Hp} {t : LamT} {g : List (Str × Addr)} {a : Addr} (h : LamAt F t g a) (e : Ext F F') : LamAt F' t g a := by
  obtain ⟨o, dV, c, h1, h2, h3, h4, h5⟩ := h
  refine ⟨o, dV, c, e _ _ h1, h2, ?_, e _ _ h4, h5⟩
  rcases h3 with h3 | ⟨T, us, k1, k2, k3⟩
  · exact .inl h3
  · exact .inr ⟨T, us, k1, e _ _ k2, k3⟩
theorem CelAt.ext {F F' : Hp} {names : List Str} {g : List (Str × Addr)} {vs : List V} (h : CelAt F names g vs) (e : Ext F F') : CelAt F' names g vs := fun i y v h1 h2 =>
  let ⟨c, oc, u, k1, k2, k3⟩ := h i y v h1 h2
  ⟨c, oc, u, k1, e _ _ k2, k3⟩
section
variable {K : PySem.W.Frag} {ι ι' : List Addr} {F F' : Hp}
theorem pre_get {ι ι' : List Addr} (hp : ι <+: ι') {n : Nat} {a : Addr} (h : ι[n]? = some a) : ι'[n]? = some a := by
  obtain ⟨t, rfl⟩ := hp
  rw [List.getElem?_append_left (List.getElem?_eq_some_iff.mp h).1]
  exact h
mutual
theorem Rep.mono (hp : ι <+: ι') (e : Ext F F') : ∀ {d : D} {v : V}, Rep K ι F d v → Rep K ι' F' d v
  | _, _, .non => .non
  | _, _, .bl b => .bl b
  | _, _, .int i => .int i
  | _, _, .str x => .str x
  | _, _, .tup h r => .tup (SqT.ext' h e) (Reps.mono hp e r)
  | _, _, .lst h r => .lst (SqL.ext' h e) (Reps.mono hp e r)
  | _, _, .obj h n r => .obj (e _ _ h) n (Reps.mono hp e r)
  | _, _, .loc h => .loc (pre_get hp h)
  | _, _, .val v => .val v
  | _, _, .xob h n r => .xob (h.ext e) n (Reps.mono hp e r)
  | _, _, .lam h => .lam (h.ext e)
  | _, _, .clo h h2 r => .clo (h.ext e) (h2.ext e) (Reps.mono hp e r)
theorem Reps.mono (hp : ι <+: ι') (e : Ext F F') : ∀ {ds : List D} {vs : List V}, Reps K ι F ds vs → Reps K ι' F' ds vs
  | _, _, .nil => .nil
  | _, _, .cons h r => .cons (Rep.mono hp e h) (Reps.mono hp e r)
theorem RepF.mono (hp : ι <+: ι') (e : Ext F F') : ∀ {ds : List (Str × D)} {vs : List (Str × V)}, RepF K ι F ds vs → RepF K ι' F' ds vs
  | _, _, .nil => .nil
  | _, _, .cons h r => .cons (Rep.mono hp e h) (RepF.mono hp e r)
end
theorem Reps.len : ∀ {ds : List D} {vs : List V}, Reps K ι F ds vs → ds.length = vs.length
  | _, _, .nil => rfl
  | _, _, .cons _ r => congrArg Nat.succ (Reps.len r)
theorem Reps.get : ∀ {ds : List D} {vs : List V} {i : Nat} {d : D}, Reps K ι F ds vs → ds[i]? = some d → ∃ v, vs[i]? = some v ∧ Rep K ι F d v
  | _, _, _, _, .nil, e => by simp at e
  | _, _, 0, _, .cons h r, e => by simp at e; subst e; exact ⟨_, rfl, h⟩
  | _, _, i + 1, d, .cons h r, e => by
    obtain ⟨v, h1, h2⟩ := Reps.get (i := i) (d := d) r (by simpa using e)
    exact ⟨v, by simpa using h1, h2⟩
theorem Reps.getV : ∀ {ds : List D} {vs : List V} {i : Nat} {v : V}, Reps K ι F ds vs → vs[i]? = some v → ∃ d, ds[i]? = some d ∧ Rep K ι F d v
  | _, _, _, _, .nil, e => by simp at e
  | _, _, 0, _, .cons h r, e => by simp at e; subst e; exact ⟨_, rfl, h⟩
  | _, _, i + 1, d, .cons h r, e => by
    obtain ⟨v, h1, h2⟩ := Reps.getV (i := i) (v := d) r (by simpa using e)
    exact ⟨v, by simpa using h1, h2⟩
theorem Reps.append : ∀ {ds es : List D} {vs us : List V}, Reps K ι F ds vs → Reps K ι F es us → Reps K ι F (ds ++ es) (vs ++ us)
  | _, _, _, _, .nil, s => s
  | _, _, _, _, .cons h r, s => .cons h (Reps.append r s)
theorem Reps.take : ∀ {ds : List D} {vs : List V} (n : Nat), Reps K ι F ds vs → Reps K ι F (ds.take n) (vs.take n)
  | _, _, 0, _ => .nil
  | _, _, _ + 1, .nil => .nil
  | _, _, n + 1, .cons h r => .cons h (Reps.take n r)
theorem Reps.drop : ∀ {ds : List D} {vs : List V} (n : Nat), Reps K ι F ds vs → Reps K ι F (ds.drop n) (vs.drop n)
  | _, _, 0, r => r
  | _, _, _ + 1, .nil => .nil
  | _, _, n + 1, .cons _ r => Reps.drop n r
theorem Reps.set {d : D} {v : V} (h : Rep K ι F d v) : ∀ {ds : List D} {vs : List V} (i : Nat), Reps K ι F ds vs → Reps K ι F (ds.set i d) (vs.set i v)
  | _, _, _, .nil => .nil
  | _, _, 0, .cons _ r => .cons h r
  | _, _, i + 1, .cons q r => .cons q (Reps.set h i r)
theorem Reps.eraseIdx : ∀ {ds : List D} {vs : List V} (i : Nat), Reps K ι F ds vs → Reps K ι F (ds.eraseIdx i) (vs.eraseIdx i)
  | _, _, _, .nil => .nil
  | _, _, 0, .cons _ r => r
  | _, _, i + 1, .cons q r => .cons q (Reps.eraseIdx i r)
theorem RepF.get : ∀ {fs : List (Str × D)} {vs : List (Str × V)} {f : Str} {d : D}, RepF K ι F fs vs → fs.lookup f = some d → ∃ v, vs.lookup f = some v ∧ Rep K ι F d v
  | _, _, _, _, .nil, e => by simp at e
  | _, _, f, d, .cons (f := g) h r, e => by
    rw [List.lookup_cons] at e ⊢
    cases hb : f == g with
    | true => rw [hb] at e; cases e; exact ⟨_, rfl, h⟩
    | false => rw [hb] at e; exact RepF.get r e
theorem RepF.none : ∀ {fs : List (Str × D)} {vs : List (Str × V)} {f : Str}, RepF K ι F fs vs → fs.lookup f = .none → vs.lookup f = .none
  | _, _, _, .nil, e => rfl
  | _, _, f, .cons (f := g) h r, e => by
    rw [List.lookup_cons] at e ⊢
    cases hb : f == g with
    | true => rw [hb] at e; cases e
    | false => rw [hb] at e; exact RepF.none r e
theorem RepF.len : ∀ {fs : List (Str × D)} {vs : List (Str × V)}, RepF K ι F fs vs → fs.length = vs.length
  | _, _, .nil => rfl
  | _, _, .cons _ r => congrArg Nat.succ (RepF.len r)
/-- the twin of putF -/
def putD (f : Str) (d : D) : List (Str × D) → List (Str × D)
  | [] => [(f, d)]
  | (g, e) :: r => if g = f then (g, d) :: r else (g, e) :: putD f d r
end
end DL

namespace DL
open PySem PySem.Spec PyProof.Rows L2
variable [LamTab]

/-- a mutable object of the store -/
inductive Mo where
  | lst (ds : List D)
  | ins (C : Addr) (fs : List (Str × D))
  | exo (C : Addr) (d : Option Nat)
  | exd (fs : List (Str × D))
  | dik (kvs : List (Key × D))
  | dit (kvs : List (List Key × D))
abbrev Mu := List Mo
abbrev En := List (Option D)
/-- a state of the world: the store's addresses, what never changes from now on, all that is tracked -/
structure Wd where
  i : List Addr
  F : Hp
  H : Hp
def MoOk (K : PySem.W.Frag) (S : Wd) (a : Addr) : Mo → Prop
  | .lst ds => ∃ xs, S.H a = some (.lst xs) ∧ Reps K S.i S.F ds xs
  | .ins C fs => ∃ dx vs, S.H a = some (.ins C dx vs) ∧ RepF K S.i S.F fs vs
  | .exo C none => S.H a = some (exo a C none)
  | .exo C (some k) => ∃ dx, S.i[k]? = some dx ∧ S.H a = some (exo a C (some dx))
  | .exd fs => ∃ vs, S.H a = some (exd a vs) ∧ RepF K S.i S.F fs vs
  | .dik kvs => ∃ vs : List (Key × V), S.H a = some (.dK vs) ∧ kvs.map (·.1) = vs.map (·.1) ∧ Reps K S.i S.F (kvs.map (·.2)) (vs.map (·.2))
  | .dit kvs => ∃ vs : List (List Key × V), S.H a = some (.dT vs) ∧ kvs.map (·.1) = vs.map (·.1) ∧ Reps K S.i S.F (kvs.map (·.2)) (vs.map (·.2))
/-- the tables of code objects, each kept apart -/
def TbOk (K : PySem.W.Frag) (S : Wd) : Prop := ∀ p ∈ LamTab.tbls K, ∃ ps : Array Value, S.H p.1 = some (.tbl ps) ∧ S.F p.1 = none ∧ p.1 ∉ S.i ∧ TriplesOk ps.toList ∧ ∀ (pos : Pos) (cv : Value), codeAmong pos ps.toList = some cv → ∃ c, cv = .ref c ∧ S.F c = some (LamX.CodeO c p.2)
structure Sta (K : PySem.W.Frag) (S : Wd) (m : Mu) : Prop where
  nd : S.i.Nodup
  len : S.i.length = m.length
  sub : Ext S.F S.H
  dis : ∀ a ∈ S.i, S.F a = none
  tr : ∀ a ∈ S.i, ∃ o, S.H a = some o
  ok : ∀ (n : Nat) a o, S.i[n]? = some a → m[n]? = some o → MoOk K S a o
  tb : TbOk K S
structure Stp (S T : Wd) : Prop where
  pre : S.i <+: T.i
  ext : Ext S.F T.F
  frame : ∀ a o, (∀ ps, o ≠ .tbl ps) → S.H a = some o → S.F a = none → a ∉ S.i → T.H a = some o ∧ T.F a = none ∧ a ∉ T.i
  old : ∀ a, T.H a = none → S.H a = none
theorem upd_none {H : Hp} {p a : Addr} {o : HO} (h : upd H p o a = none) : H a = none := by
  by_cases e : a = p
  · subst e; rw [upd_same] at h; cases h
  · rw [upd_ne e] at h; exact h
theorem Stp.refl (S : Wd) : Stp S S := ⟨List.prefix_refl _, Ext.refl _, fun _ _ _ h1 h2 h3 => ⟨h1, h2, h3⟩, fun _ h => h⟩
theorem Stp.trans {S T U : Wd} (a : Stp S T) (b : Stp T U) : Stp S U := ⟨a.pre.trans b.pre, a.ext.trans b.ext, fun c o hn h1 h2 h3 =>
  let ⟨k1, k2, k3⟩ := a.frame c o hn h1 h2 h3
  b.frame c o hn k1 k2 k3, fun c h => a.old c (b.old c h)⟩
theorem Rep.stp {K : PySem.W.Frag} {S T : Wd} (s : Stp S T) {d : D} {v : V} (r : Rep K S.i S.F d v) : Rep K T.i T.F d v := r.mono s.pre s.ext
theorem Reps.stp {K : PySem.W.Frag} {S T : Wd} (s : Stp S T) {d : List D} {v : List V} (r : Reps K S.i S.F d v) : Reps K T.i T.F d v := r.mono s.pre s.ext
theorem RepF.stp {K : PySem.W.Frag} {S T : Wd} (s : Stp S T) {d : List (Str × D)} {v : List (Str × V)} (r : RepF K S.i S.F d v) : RepF K T.i T.F d v := r.mono s.pre s.ext
theorem Sta.fresh {K : PySem.W.Frag} {S : Wd} {m : Mu} (sa : Sta K S m) {p : Addr} (h : S.H p = none) : S.F p = none ∧ p ∉ S.i := by
  constructor
  · cases q : S.F p with
    | none => rfl
    | some o => rw [sa.sub p o q] at h; cases h
  · intro hp
    obtain ⟨o, e⟩ := sa.tr p hp
    rw [h] at e; cases e
/-- a new object that stays as it is -/
def Wd.new (S : Wd) (p : Addr) (o : HO) : Wd := ⟨S.i, upd S.F p o, upd S.H p o⟩
theorem Ext.updNew {H : Hp} {p : Addr} {o : HO} (h : H p = none) : Ext H (upd H p o) := fun a u e => by rw [upd_ne (ne_of_none e h)]; exact e
theorem Stp.new {K : PySem.W.Frag} {S : Wd} {m : Mu} (sa : Sta K S m) {p : Addr} {o : HO} (h : S.H p = none) : Stp S (S.new p o) := by
  refine ⟨List.prefix_refl _, Ext.updNew (sa.fresh h).1, fun a u _ h1 h2 h3 => ?_, fun a z => upd_none z⟩
  have ne : a ≠ p := ne_of_none h1 h
  exact ⟨by show upd S.H p o a = _; rw [upd_ne ne]; exact h1, by show upd S.F p o a = _; rw [upd_ne ne]; exact h2, h3⟩
theorem MoOk.stp {K : PySem.W.Frag} {S T : Wd} (s : Stp S T) {a : Addr} {o : Mo} (h : MoOk K S a o) (e : T.H a = S.H a) : MoOk K T a o := by
  cases o with
  | lst ds => obtain ⟨xs, h1, h2⟩ := h; exact ⟨xs, by rw [e]; exact h1, h2.stp s⟩
  | ins C fs => obtain ⟨dx, vs, h1, h2⟩ := h; exact ⟨dx, vs, by rw [e]; exact h1, h2.stp s⟩
  | exo C d =>
    cases d with
    | none => exact (show T.H a = _ from e.trans h)
    | some k => obtain ⟨dx, h1, h2⟩ := h; exact ⟨dx, pre_get s.pre h1, by rw [e]; exact h2⟩
  | exd fs => obtain ⟨vs, h1, h2⟩ := h; exact ⟨vs, by rw [e]; exact h1, h2.stp s⟩
  | dik kvs => obtain ⟨vs, h1, h0, h2⟩ := h; exact ⟨vs, by rw [e]; exact h1, h0, h2.stp s⟩
  | dit kvs => obtain ⟨vs, h1, h0, h2⟩ := h; exact ⟨vs, by rw [e]; exact h1, h0, h2.stp s⟩
theorem Sta.new {K : PySem.W.Frag} {S : Wd} {m : Mu} (sa : Sta K S m) {p : Addr} {o : HO} (h : S.H p = none) : Sta K (S.new p o) m := by
  have st := Stp.new sa (o := o) h
  have f := sa.fresh h
  refine ⟨sa.nd, sa.len, fun a u e => ?_, fun a ha => ?_, fun a ha => ?_, fun n a q h1 h2 => ?_, fun q hq => ?tb⟩
  case tb =>
    obtain ⟨ps, t1, t2, t3, t4, t5⟩ := sa.tb q hq
    have ne : q.1 ≠ p := ne_of_none t1 h
    exact ⟨ps, by show upd S.H p o q.1 = _; rw [upd_ne ne]; exact t1, by show upd S.F p o q.1 = _; rw [upd_ne ne]; exact t2, t3, t4, fun pos cv hc => let ⟨c, c1, c2⟩ := t5 pos cv hc; ⟨c, c1, st.ext _ _ c2⟩⟩
  · show upd S.H p o a = some u
    have e : upd S.F p o a = some u := e
    by_cases hp : a = p
    · subst hp; rw [upd_same] at e ⊢; exact e
    · rw [upd_ne hp] at e ⊢; exact sa.sub a u e
  · have ne : a ≠ p := fun z => f.2 (z ▸ ha)
    show upd S.F p o a = none
    rw [upd_ne ne]; exact sa.dis a ha
  · have ne : a ≠ p := fun z => f.2 (z ▸ ha)
    obtain ⟨u, e⟩ := sa.tr a ha
    exact ⟨u, by show upd S.H p o a = _; rw [upd_ne ne]; exact e⟩
  · have ne : a ≠ p := fun z => f.2 (z ▸ List.mem_of_getElem? h1)
    exact (sa.ok n a q h1 h2).stp st (upd_ne ne)
/-- a new object of the store -/
def Wd.tok (S : Wd) (p : Addr) (o : HO) : Wd := ⟨S.i ++ [p], S.F, upd S.H p o⟩
theorem Stp.tok {K : PySem.W.Frag} {S : Wd} {m : Mu} (sa : Sta K S m) {p : Addr} {o : HO} (h : S.H p = none) : Stp S (S.tok p o) := by
  refine ⟨List.prefix_append _ _, Ext.refl _, fun a u _ h1 h2 h3 => ?_, fun a z => upd_none z⟩
  have ne : a ≠ p := ne_of_none h1 h
  exact ⟨by show upd S.H p o a = _; rw [upd_ne ne]; exact h1, h2, by
    intro z
    rcases List.mem_append.mp z with z | z
    · exact h3 z
    · exact ne (List.mem_singleton.mp z)⟩
theorem Sta.tok {K : PySem.W.Frag} {S : Wd} {m : Mu} (sa : Sta K S m) {p : Addr} {o : HO} (h : S.H p = none) {q : Mo} (hq : MoOk K (S.tok p o) p q) : Sta K (S.tok p o) (m ++ [q]) := by
  have st := Stp.tok sa (o := o) h
  have f := sa.fresh h
  refine ⟨?_, by show (S.i ++ [p]).length = _; simp [sa.len], fun a u e => ?_, fun a ha => ?_, fun a ha => ?_, fun n a u h1 h2 => ?_, fun q hq => ?tb⟩
  case tb =>
    obtain ⟨ps, t1, t2, t3, t4, t5⟩ := sa.tb q hq
    have ne : q.1 ≠ p := ne_of_none t1 h
    exact ⟨ps, by show upd S.H p o q.1 = _; rw [upd_ne ne]; exact t1, t2, by show q.1 ∉ S.i ++ [p]; simp [t3, ne], t4, t5⟩
  · show (S.i ++ [p]).Nodup
    refine List.nodup_append.mpr ⟨sa.nd, by simp, fun a ha b hb => ?_⟩
    have : b = p := List.mem_singleton.mp hb
    subst this
    exact fun z => f.2 (z ▸ ha)
  · have ne : a ≠ p := fun z => by
      have e : S.F a = some u := e
      rw [z, f.1] at e; cases e
    show upd S.H p o a = some u
    rw [upd_ne ne]; exact sa.sub a u e
  · rcases List.mem_append.mp (show a ∈ S.i ++ [p] from ha) with z | z
    · exact sa.dis a z
    · have : a = p := List.mem_singleton.mp z
      subst this; exact f.1
  · show ∃ u, upd S.H p o a = some u
    by_cases hp : a = p
    · subst hp; exact ⟨o, upd_same⟩
    · rcases List.mem_append.mp (show a ∈ S.i ++ [p] from ha) with z | z
      · rw [upd_ne hp]; exact sa.tr a z
      · exact absurd (List.mem_singleton.mp z) hp
  · have h1 : (S.i ++ [p])[n]? = some a := h1
    by_cases hn : n < S.i.length
    · rw [List.getElem?_append_left hn] at h1
      rw [List.getElem?_append_left (by rw [← sa.len]; exact hn)] at h2
      have ne : a ≠ p := fun z => f.2 (z ▸ List.mem_of_getElem? h1)
      exact (sa.ok n a u h1 h2).stp st (upd_ne ne)
    · have hn' : n = S.i.length := by
        have := (List.getElem?_eq_some_iff.mp h1).1
        simp at this; omega
      subst hn'
      rw [List.getElem?_append_right (Nat.le_refl _), Nat.sub_self] at h1
      rw [sa.len, List.getElem?_append_right (Nat.le_refl _), Nat.sub_self] at h2
      simp at h1 h2
      subst h1; subst h2
      exact hq
/-- an object of the store, or a hidden one, is written -/
def Wd.put (S : Wd) (p : Addr) (o : HO) : Wd := ⟨S.i, S.F, upd S.H p o⟩
theorem Sta.put {K : PySem.W.Frag} {S : Wd} {m : Mu} (sa : Sta K S m) {p : Addr} {o : HO} {n : Nat} (h : S.i[n]? = some p) {q : Mo} (hq : MoOk K (S.put p o) p q) : Stp S (S.put p o) ∧ Sta K (S.put p o) (m.set n q) := by
  have hp := List.mem_of_getElem? h
  have st : Stp S (S.put p o) := ⟨List.prefix_refl _, Ext.refl _, fun a u _ h1 h2 h3 => ⟨by
    have ne : a ≠ p := fun z => h3 (z ▸ hp)
    show upd S.H p o a = _; rw [upd_ne ne]; exact h1, h2, h3⟩, fun a z => upd_none z⟩
  refine ⟨st, sa.nd, by show S.i.length = _; simp [sa.len], fun a u e => ?_, sa.dis, fun a ha => ?_, fun k a u h1 h2 => ?_, fun q hq => ?tb⟩
  case tb =>
    obtain ⟨ps, t1, t2, t3, t4, t5⟩ := sa.tb q hq
    have ne : q.1 ≠ p := fun z => t3 (z ▸ hp)
    exact ⟨ps, by show upd S.H p o q.1 = _; rw [upd_ne ne]; exact t1, t2, t3, t4, t5⟩
  · have ne : a ≠ p := fun z => by
      have e : S.F a = some u := e
      rw [z, sa.dis p hp] at e; cases e
    show upd S.H p o a = some u
    rw [upd_ne ne]; exact sa.sub a u e
  · show ∃ u, upd S.H p o a = some u
    by_cases hp : a = p
    · subst hp; exact ⟨o, upd_same⟩
    · rw [upd_ne hp]; exact sa.tr a ha
  · have h1 : S.i[k]? = some a := h1
    by_cases hk : k = n
    · subst hk
      rw [h] at h1; cases h1
      have hl : k < m.length := by rw [← sa.len]; exact (List.getElem?_eq_some_iff.mp h).1
      rw [List.getElem?_set_self hl] at h2; cases h2
      exact hq
    · rw [List.getElem?_set_ne (Ne.symm hk)] at h2
      have ne : a ≠ p := fun z => by
        subst z
        obtain ⟨l1, e1⟩ := List.getElem?_eq_some_iff.mp h1
        obtain ⟨l2, e2⟩ := List.getElem?_eq_some_iff.mp h
        exact hk ((List.getElem_inj sa.nd).mp (e1.trans e2.symm))
      exact (sa.ok k a u h1 h2).stp st (upd_ne ne)
/-- a hidden object is written -/
theorem Sta.hid {K : PySem.W.Frag} {S : Wd} {m : Mu} (sa : Sta K S m) {p : Addr} {o : HO} (h1 : S.F p = none) (h2 : p ∉ S.i) (h3 : ∀ ps, S.H p ≠ some (.tbl ps)) : Sta K (S.put p o) m := by
  refine ⟨sa.nd, sa.len, fun a u e => ?_, sa.dis, fun a ha => ?_, fun k a u e1 e2 => ?_, fun q hq => ?tb⟩
  case tb =>
    obtain ⟨ps, t1, t2, t3, t4, t5⟩ := sa.tb q hq
    have ne : q.1 ≠ p := fun z => h3 ps (z ▸ t1)
    exact ⟨ps, by show upd S.H p o q.1 = _; rw [upd_ne ne]; exact t1, t2, t3, t4, t5⟩
  · have ne : a ≠ p := fun z => by
      have e : S.F a = some u := e
      rw [z, h1] at e; cases e
    show upd S.H p o a = some u
    rw [upd_ne ne]; exact sa.sub a u e
  · have ne : a ≠ p := fun z => h2 (z ▸ ha)
    show ∃ u, upd S.H p o a = some u
    rw [upd_ne ne]; exact sa.tr a ha
  · have ne : a ≠ p := fun z => h2 (z ▸ List.mem_of_getElem? e1)
    have q := sa.ok k a u e1 e2
    cases u with
    | lst ds => obtain ⟨xs, q1, q2⟩ := q; exact ⟨xs, by show upd S.H p o a = _; rw [upd_ne ne]; exact q1, q2⟩
    | ins C fs => obtain ⟨dx, vs, q1, q2⟩ := q; exact ⟨dx, vs, by show upd S.H p o a = _; rw [upd_ne ne]; exact q1, q2⟩
    | exo C d =>
      cases d with
      | none => exact (show upd S.H p o a = _ from (upd_ne ne).trans q)
      | some k => obtain ⟨dx, q1, q2⟩ := q; exact ⟨dx, q1, (show upd S.H p o a = _ from (upd_ne ne).trans q2)⟩
    | exd fs => obtain ⟨vs, q1, q2⟩ := q; exact ⟨vs, by show upd S.H p o a = _; rw [upd_ne ne]; exact q1, q2⟩
    | dik kvs => obtain ⟨vs, q1, q0, q2⟩ := q; exact ⟨vs, by show upd S.H p o a = _; rw [upd_ne ne]; exact q1, q0, q2⟩
    | dit kvs => obtain ⟨vs, q1, q0, q2⟩ := q; exact ⟨vs, by show upd S.H p o a = _; rw [upd_ne ne]; exact q1, q0, q2⟩
/-- a hidden object stays as it is from now on -/
def Wd.keep (S : Wd) (p : Addr) (o : HO) : Wd := ⟨S.i, upd S.F p o, S.H⟩
theorem Sta.keep {K : PySem.W.Frag} {S : Wd} {m : Mu} (sa : Sta K S m) {p : Addr} {o : HO} (h0 : S.H p = some o) (h1 : S.F p = none) (h2 : p ∉ S.i) (h3 : ∀ ps, o ≠ .tbl ps) : Sta K (S.keep p o) m := by
  have ex : Ext S.F (upd S.F p o) := Ext.updNew h1
  refine ⟨sa.nd, sa.len, fun a u e => ?_, fun a ha => ?_, sa.tr, fun k a u e1 e2 => ?_, fun q hq => ?tb⟩
  case tb =>
    obtain ⟨ps, t1, t2, t3, t4, t5⟩ := sa.tb q hq
    have ne : q.1 ≠ p := fun z => h3 ps (Option.some.inj (h0.symm.trans (z ▸ t1)))
    exact ⟨ps, t1, by show upd S.F p o q.1 = _; rw [upd_ne ne]; exact t2, t3, t4, fun pos cv hc => let ⟨c, c1, c2⟩ := t5 pos cv hc; ⟨c, c1, ex _ _ c2⟩⟩
  · have e : upd S.F p o a = some u := e
    by_cases hp : a = p
    · subst hp; rw [upd_same] at e; cases e; exact h0
    · rw [upd_ne hp] at e; exact sa.sub a u e
  · have ne : a ≠ p := fun z => h2 (z ▸ ha)
    show upd S.F p o a = none
    rw [upd_ne ne]; exact sa.dis a ha
  · have q := sa.ok k a u e1 e2
    cases u with
    | lst ds => obtain ⟨xs, q1, q2⟩ := q; exact ⟨xs, q1, q2.mono (List.prefix_refl _) ex⟩
    | ins C fs => obtain ⟨dx, vs, q1, q2⟩ := q; exact ⟨dx, vs, q1, q2.mono (List.prefix_refl _) ex⟩
    | exo C d =>
      cases d with
      | none => exact q
      | some k => exact q
    | exd fs => obtain ⟨vs, q1, q2⟩ := q; exact ⟨vs, q1, q2.mono (List.prefix_refl _) ex⟩
    | dik kvs => obtain ⟨vs, q1, q0, q2⟩ := q; exact ⟨vs, q1, q0, q2.mono (List.prefix_refl _) ex⟩
    | dit kvs => obtain ⟨vs, q1, q0, q2⟩ := q; exact ⟨vs, q1, q0, q2.mono (List.prefix_refl _) ex⟩

/-! ### results -/
inductive Res (α : Type) where
  | stuck
  | ok (a : α) (m : Mu)
  | exc (C : Addr) (fs : List (Str × D)) (m : Mu)
def Res.bind {α β : Type} (r : Res α) (f : α → Mu → Res β) : Res β := match r with
  | .stuck => .stuck
  | .ok a m => f a m
  | .exc C fs m => .exc C fs m
@[simp] theorem Res.bind_ok {α β : Type} (a : α) (m : Mu) (f : α → Mu → Res β) : (Res.ok a m).bind f = f a m := rfl
@[simp] theorem Res.bind_stuck {α β : Type} (f : α → Mu → Res β) : (Res.stuck : Res α).bind f = .stuck := rfl
@[simp] theorem Res.bind_exc {α β : Type} (C : Addr) (fs : List (Str × D)) (m : Mu) (f : α → Mu → Res β) : (Res.exc C fs m : Res α).bind f = .exc C fs m := rfl

section
variable {α β γ δ : Type} {K : PySem.W.Frag} {S T : Wd}
/-- what must hold so that r is the answer -/
def Post (R : Wd → α → β → Prop) (K : PySem.W.Frag) (S : Wd) (r : Res α) (Q : β → Hp → Prop) (W : XK) : Prop := match r with
  | .stuck => False
  | .ok a m => ∀ v T, Stp S T → Sta K T m → R T a v → Q v T.H
  | .exc C fs m => ∀ dd vs T, Stp S T → S.H dd = none → Sta K T m → T.H dd = some (.xd vs) → RepF K T.i T.F fs vs → W (.ref C) (some dd) T.H
variable {R : Wd → α → β → Prop} {R' : Wd → γ → δ → Prop}
theorem Post.step {r : Res α} {Q : β → Hp → Prop} {W : XK} (s : Stp S T) (h : Post R K S r Q W) : Post R K T r Q W := by
  cases r with
  | stuck => exact h
  | ok a m => exact fun v U s1 => h v U (s.trans s1)
  | exc C fs m => exact fun dd vs U s1 hn => h dd vs U (s.trans s1) (s.old dd hn)
theorem Post.imp {r : Res α} {Q Q' : β → Hp → Prop} {W : XK} (h : Post R K S r Q W) (f : ∀ v H, Q v H → Q' v H) : Post R K S r Q' W := by
  cases r with
  | stuck => exact h
  | ok a m => exact fun v U s1 s2 s3 => f _ _ (h v U s1 s2 s3)
  | exc C fs m => exact h
theorem Post.bindI {r : Res α} {f : α → Mu → Res γ} {Q : δ → Hp → Prop} {Q' : β → Hp → Prop} {W : XK} (h : Post R' K S (r.bind f) Q W)
    (g : ∀ a m v T, Stp S T → Sta K T m → R T a v → Post R' K T (f a m) Q W → Q' v T.H) : Post R K S r Q' W := by
  cases r with
  | stuck => exact h
  | ok a m => exact fun v U s1 s2 s3 => g a m v U s1 s2 s3 (Post.step (r := f a m) s1 h)
  | exc C fs m => exact h
/-- the answer is known -/
theorem Post.ok {a : α} {m : Mu} {Q : β → Hp → Prop} {W : XK} {v : β} (h : Post R K S (.ok a m) Q W) (s : Stp S T) (sa : Sta K T m) (r : R T a v) : Q v T.H := h v T s sa r
end
abbrev RD (K : PySem.W.Frag) : Wd → D → V → Prop := fun S d v => Rep K S.i S.F d v
abbrev RL (K : PySem.W.Frag) : Wd → List D → List V → Prop := fun S d v => Reps K S.i S.F d v
abbrev RB : Wd → Bool → Bool → Prop := fun _ a b => a = b
abbrev PostD (K : PySem.W.Frag) (S : Wd) (r : Res D) (Q : VK) (W : XK) : Prop := Post (RD K) K S r Q W
abbrev PostL (K : PySem.W.Frag) (S : Wd) (r : Res (List D)) (Q : List V → Hp → Prop) (W : XK) : Prop := Post (RL K) K S r Q W
abbrev PostB (K : PySem.W.Frag) (S : Wd) (r : Res Bool) (Q : Bool → Hp → Prop) (W : XK) : Prop := Post RB K S r Q W

/-- names and their data -/
def RelE (K : PySem.W.Frag) (S : Wd) (e : En) (σ : L2.St) : Prop := e.length = σ.length ∧ ∀ (i : Nat) d, e[i]? = some (some d) → ∃ v, σ[i]? = some (some v) ∧ Rep K S.i S.F d v
theorem RelE.stp {K : PySem.W.Frag} {S T : Wd} {e : En} {σ : L2.St} (r : RelE K S e σ) (s : Stp S T) : RelE K T e σ := ⟨r.1, fun i d h => let ⟨v, h1, h2⟩ := r.2 i d h; ⟨v, h1, h2.stp s⟩⟩
theorem RelE.set {K : PySem.W.Frag} {S : Wd} {e : En} {σ : L2.St} {d : D} {v : V} (r : RelE K S e σ) (i : Nat) (h : Rep K S.i S.F d v) : RelE K S (e.set i (some d)) (σ.set i (some v)) := by
  refine ⟨by simp [r.1], fun j d' e1 => ?_⟩
  by_cases hj : i = j
  · subst hj
    by_cases hl : i < e.length
    · rw [List.getElem?_set_self hl] at e1
      cases e1
      exact ⟨v, List.getElem?_set_self (by rw [← r.1]; exact hl), h⟩
    · rw [List.getElem?_eq_none (by simpa using hl)] at e1; cases e1
  · rw [List.getElem?_set_ne hj] at e1 ⊢
    exact r.2 j d' e1
def wipeE (e : En) : List Nat → En
  | [] => e
  | v :: vs => (wipeE e vs).set v none
theorem RelE.unset {K : PySem.W.Frag} {S : Wd} {e : En} {σ : L2.St} (r : RelE K S e σ) (i : Nat) : RelE K S (e.set i none) (σ.set i none) := by
  refine ⟨by simp [r.1], fun j d' e1 => ?_⟩
  by_cases hj : i = j
  · subst hj
    by_cases hl : i < e.length
    · rw [List.getElem?_set_self hl] at e1; cases e1
    · rw [List.getElem?_eq_none (by simpa using hl)] at e1; cases e1
  · rw [List.getElem?_set_ne hj] at e1 ⊢
    exact r.2 j d' e1
theorem RelE.wipe {K : PySem.W.Frag} {S : Wd} {e : En} {σ : L2.St} (r : RelE K S e σ) : ∀ vs : List Nat, RelE K S (wipeE e vs) (wipe σ vs)
  | [] => r
  | v :: vs => (RelE.wipe r vs).unset v

inductive RS where
  | stuck
  | nx (e : En) (m : Mu)
  | rt (d : D) (m : Mu)
  | bk (e : En) (m : Mu)
  | ct (e : En) (m : Mu)
  | exc (C : Addr) (fs : List (Str × D)) (e : En) (m : Mu)
def PostS (K : PySem.W.Frag) (S : Wd) (r : RS) (N : Ends) (W : WX) : Prop := match r with
  | .stuck => False
  | .nx e m => ∀ σ T, Stp S T → Sta K T m → RelE K T e σ → N.nx σ T.H
  | .rt d m => ∀ v T, Stp S T → Sta K T m → Rep K T.i T.F d v → N.rt v T.H
  | .bk e m => ∀ σ T, Stp S T → Sta K T m → RelE K T e σ → N.bk σ T.H
  | .ct e m => ∀ σ T, Stp S T → Sta K T m → RelE K T e σ → N.ct σ T.H
  | .exc C fs e m => ∀ dd vs σ T, Stp S T → S.H dd = none → Sta K T m → RelE K T e σ → T.H dd = some (.xd vs) → RepF K T.i T.F fs vs → W (.ref C) (some dd) σ T.H
theorem PostS.step {K : PySem.W.Frag} {S T : Wd} {r : RS} {N : Ends} {W : WX} (s : Stp S T) (h : PostS K S r N W) : PostS K T r N W := by
  cases r with
  | stuck => exact h
  | nx e m => exact fun σ U s1 => h σ U (s.trans s1)
  | rt d m => exact fun v U s1 => h v U (s.trans s1)
  | bk e m => exact fun σ U s1 => h σ U (s.trans s1)
  | ct e m => exact fun σ U s1 => h σ U (s.trans s1)
  | exc C fs e m => exact fun dd vs σ U s1 hn => h dd vs σ U (s.trans s1) (s.old dd hn)

/-! ### judgements -/
/-- this exception may leave X -/
def Fly (X : Cx) (c : Value) (d : Option Addr) (σ : L2.St) (H : Hp) : Prop := Takes X (fun c' d' σ' H' => c' = c ∧ d' = d ∧ σ' = σ ∧ H' = H)
theorem takesFly (X : Cx) : Takes X (Fly X) := fun u s' ⟨a, B, sI, pins, σ, H, cls, d, e, I, nb, up, sky, na, os, ag, w⟩ =>
  w u s' ⟨a, B, sI, pins, σ, H, cls, d, e, I, nb, up, sky, na, os, ag, rfl, rfl, rfl, rfl⟩
theorem Fly.of {X : Cx} {W : WX} (t : Takes X W) {c : Value} {d : Option Addr} {σ : L2.St} {H : Hp} (h : W c d σ H) : Fly X c d σ H := t.imp fun _ _ _ _ ⟨e1, e2, e3, e4⟩ => by subst e1 e2 e3 e4; exact h
def WE (X : Cx) (e : Expr) : TE := fun σ H Q => ∀ (pins : List (Addr × Obj)) (s : Shared), Inv X pins σ H s → wpAny (model X.prog X.w) X.A (eval e X.env) (EP X pins σ Q) X.xe s
def WT (X : Cx) (e : Expr) : TT := fun σ H Q => ∀ (pins : List (Addr × Obj)) (s : Shared), Inv X pins σ H s → wpAny (model X.prog X.w) X.A (isTrue e X.env (eval e X.env)) (TP X pins σ Q) X.xe s
def WW (X : Cx) (e : Expr) : TT := fun σ H Q => ∀ (whole : Sem Value) (pins : List (Addr × Obj)) (s : Shared), Inv X pins σ H s → wpAny (model X.prog X.w) X.A (isTrue e X.env whole) (TP X pins σ Q) X.xe s
def WA (X : Cx) (es : List Expr) : TA := fun σ H Q => ∀ (pos : Pos) (pins : List (Addr × Obj)) (s : Shared), Inv X pins σ H s → wpAny (model X.prog X.w) X.A (spliced (backTo pos (starEach es X.env))) (AP X pins σ Q) X.xe s
def WS (X : Cx) (st : Stmt) : TS := fun N σ H => ∀ (pins : List (Addr × Obj)) (s : Shared), Inv X pins σ H s → wpAny (model X.prog X.w) X.A (exec st X.env) (SP X pins N) X.xe s
def WSs (X : Cx) (st : List Stmt) : TS := fun N σ H => ∀ (pins : List (Addr × Obj)) (s : Shared), Inv X pins σ H s → wpAny (model X.prog X.w) X.A (execs st X.env) (SP X pins N) X.xe s
theorem mxE (X : Cx) (e : Expr) : PE X e (WE X e) := ⟨fun pins s σ H Q I h => h pins s I⟩
theorem mxT (X : Cx) (e : Expr) : PT X e (WT X e) := ⟨fun pins s σ H Q I h => h pins s I⟩
theorem mxW (X : Cx) (e : Expr) : PW X e (WW X e) := ⟨fun wh pins s σ H Q I h => h wh pins s I⟩
theorem mxA (X : Cx) (e : List Expr) : PA X e (WA X e) := ⟨fun pos pins s σ H Q I h => h pos pins s I⟩
theorem mxS (X : Cx) (e : Stmt) : PS X e (WS X e) := ⟨fun pins s σ H Q I h => h pins s I⟩
theorem mxSs (X : Cx) (e : List Stmt) : PSs X e (WSs X e) := ⟨fun pins s σ H Q I h => h pins s I⟩
abbrev DE := En → Mu → Res D
abbrev DT := En → Mu → Res Bool
abbrev DA := En → Mu → Res (List D)
abbrev DS := En → Mu → RS
abbrev DFn := List D → Mu → Res D
def PDE (X : Cx) (e : Expr) (t : DE) : Prop := ∀ S r m σ Q, Sta X.K S m → RelE X.K S r σ → PostD X.K S (t r m) Q (fun c d H => Fly X c d σ H) → WE X e σ S.H Q
def PDT (X : Cx) (e : Expr) (t : DT) : Prop := ∀ S r m σ Q, Sta X.K S m → RelE X.K S r σ → PostB X.K S (t r m) Q (fun c d H => Fly X c d σ H) → WT X e σ S.H Q
def PDW (X : Cx) (e : Expr) (t : DT) : Prop := ∀ S r m σ Q, Sta X.K S m → RelE X.K S r σ → PostB X.K S (t r m) Q (fun c d H => Fly X c d σ H) → WW X e σ S.H Q
def PDA (X : Cx) (e : List Expr) (t : DA) : Prop := ∀ S r m σ Q, Sta X.K S m → RelE X.K S r σ → PostL X.K S (t r m) Q (fun c d H => Fly X c d σ H) → WA X e σ S.H Q
def PDS (X : Cx) (e : Stmt) (t : DS) : Prop := ∀ S r m σ N, Sta X.K S m → RelE X.K S r σ → PostS X.K S (t r m) N (Fly X) → WS X e N σ S.H
def PDSs (X : Cx) (e : List Stmt) (t : DS) : Prop := ∀ S r m σ N, Sta X.K S m → RelE X.K S r σ → PostS X.K S (t r m) N (Fly X) → WSs X e N σ S.H
/-- by a rule of HandS -/
theorem pd_of {X : Cx} {e : Expr} {u : TE} {t : DE} (h : PE X e u) (k : ∀ S r m σ Q, Sta X.K S m → RelE X.K S r σ → PostD X.K S (t r m) Q (fun c d H => Fly X c d σ H) → u σ S.H Q) : PDE X e t :=
  fun S r m σ Q sa re p pins s I => h.run pins s σ S.H Q I (k S r m σ Q sa re p)
theorem pt_of {X : Cx} {e : Expr} {u : TT} {t : DT} (h : PT X e u) (k : ∀ S r m σ Q, Sta X.K S m → RelE X.K S r σ → PostB X.K S (t r m) Q (fun c d H => Fly X c d σ H) → u σ S.H Q) : PDT X e t :=
  fun S r m σ Q sa re p pins s I => h.run pins s σ S.H Q I (k S r m σ Q sa re p)
theorem pa_of {X : Cx} {e : List Expr} {u : TA} {t : DA} (h : PA X e u) (k : ∀ S r m σ Q, Sta X.K S m → RelE X.K S r σ → PostL X.K S (t r m) Q (fun c d H => Fly X c d σ H) → u σ S.H Q) : PDA X e t :=
  fun S r m σ Q sa re p pos pins s I => h.run pos pins s σ S.H Q I (k S r m σ Q sa re p)
theorem ps_of {X : Cx} {e : Stmt} {u : TS} {t : DS} (h : PS X e u) (k : ∀ S r m σ N, Sta X.K S m → RelE X.K S r σ → PostS X.K S (t r m) N (Fly X) → u N σ S.H) : PDS X e t :=
  fun S r m σ N sa re p pins s I => h.run pins s σ S.H N I (k S r m σ N sa re p)
end DL

namespace DL
open PySem PySem.Spec PyProof.Rows L2
variable [LamTab]

/-! ### what is read of data -/
/-- the items of a list -/
def seqL (m : Mu) : D → Option (List D)
  | .lst ds => some ds
  | .loc n => match m[n]? with
    | some (.lst ds) => some ds
    | _ => none
  | _ => none
def seqT : D → Option (List D)
  | .tup ds => some ds
  | _ => none
section
variable {K : PySem.W.Frag} {S T : Wd} {m : Mu}
theorem seqL_ok {d : D} {v : V} {ds : List D} (sa : Sta K S m) (r : Rep K S.i S.F d v) (h : seqL m d = some ds) : ∃ a xs, v = .ref a ∧ SqL K S.H a xs ∧ Reps K S.i S.F ds xs := by
  cases r with
  | lst h1 h2 => cases h; exact ⟨_, _, rfl, SqL.ext' h1 sa.sub, h2⟩
  | @loc n a h1 =>
    unfold seqL at h
    dsimp only at h
    split at h
    · rename_i ds' e
      cases h
      obtain ⟨xs, q1, q2⟩ := sa.ok n a _ h1 e
      exact ⟨a, xs, rfl, .inl (.inl q1), q2⟩
    · cases h
  | _ => cases h
theorem seqT_ok {d : D} {v : V} {ds : List D} (sa : Sta K S m) (r : Rep K S.i S.F d v) (h : seqT d = some ds) : ∃ a xs, v = .ref a ∧ SqT K S.H a xs ∧ Reps K S.i S.F ds xs := by
  cases r with
  | tup h1 h2 => cases h; exact ⟨_, _, rfl, SqT.ext' h1 sa.sub, h2⟩
  | _ => cases h
end
/-- truth, by a table for own classes -/
def dTru (m : Mu) : D → Option Bool
  | .non => some false
  | .bl b => some b
  | .int i => some (i != 0)
  | .str x => if x.length ≤ sizeLine then some ((x.length : Int) != 0) else none
  | .tup ds => some (!ds.isEmpty)
  | .lst ds => some (!ds.isEmpty)
  | .loc n => match m[n]? with
    | some (.lst ds) => some (!ds.isEmpty)
    | _ => none
  | _ => none
theorem isEmpty_reps {K : PySem.W.Frag} {i : List Addr} {F : Hp} {ds : List D} {xs : List V} (r : Reps K i F ds xs) : ds.isEmpty = xs.isEmpty := by cases r <;> rfl
theorem dTru_ok {K : PySem.W.Frag} {S : Wd} {m : Mu} {d : D} {v : V} {b : Bool} (sa : Sta K S m) (r : Rep K S.i S.F d v) (h : dTru m d = some b) : TruV K v S.H b := by
  cases r with
  | non => cases h; rfl
  | bl b => cases h; rfl
  | int i => cases h; rfl
  | str x =>
    unfold dTru at h
    dsimp only at h
    split at h
    · rename_i e; cases h; exact ⟨e, rfl⟩
    · cases h
  | tup h1 h2 => cases h; exact .inr (.inl ⟨_, SqT.ext' h1 sa.sub, by rw [isEmpty_reps h2]⟩)
  | lst h1 h2 => cases h; exact .inl ⟨_, SqL.ext' h1 sa.sub, by rw [isEmpty_reps h2]⟩
  | @loc n a h1 =>
    unfold dTru at h
    dsimp only at h
    split at h
    · rename_i ds' e
      cases h
      obtain ⟨xs, q1, q2⟩ := sa.ok n a _ h1 e
      exact .inl ⟨xs, .inl (.inl q1), by rw [isEmpty_reps q2]⟩
    · cases h
  | _ => cases h

/-! ### names, constants -/
def dVar (i : Nat) : DE := fun e m => match e[i]? with
  | some (some d) => .ok d m
  | _ => .stuck
def dC (d : D) : DE := fun _ m => .ok d m
section
variable {X : Cx}
theorem pd_var (i : Nat) {x : Str} {pos : Pos} (hN : X.N[i]? = some x := by rfl) (hv : Vis X.env.scope x := by first | exact Or.inl rfl | exact Or.inr (Or.inl rfl) | exact Or.inr (Or.inr rfl)) (hd : (x == ("__debug__" : Str)) = false := by decide)
    (hcd : (x == ("__classdict__" : Str)) = false := by decide) : PDE X (.Name x pos) (dVar i) := by
  refine pd_of (pe_var (i := i) hN hv hd hcd) fun S r m σ Q sa re p => ?_
  unfold dVar at p
  split at p
  · rename_i d e
    obtain ⟨v, h1, h2⟩ := re.2 i d e
    exact ⟨v, h1, Post.ok p (Stp.refl S) sa h2⟩
  · exact p.elim
theorem pd_int {i j pos} : PDE X (.Constant (.int i) j pos) (dC (.int i)) := pd_of pe_int fun S r m σ Q sa re p => Post.ok p (Stp.refl S) sa (.int i)
theorem pd_bl {i j pos} : PDE X (.Constant (.bool i) j pos) (dC (.bl i)) := pd_of pe_bl fun S r m σ Q sa re p => Post.ok p (Stp.refl S) sa (.bl i)
theorem pd_non {j pos} : PDE X (.Constant .none j pos) (dC .non) := pd_of pe_non fun S r m σ Q sa re p => Post.ok p (Stp.refl S) sa .non
theorem pd_str {i j pos} : PDE X (.Constant (.str i) j pos) (dC (.str i)) := pd_of pe_str fun S r m σ Q sa re p => Post.ok p (Stp.refl S) sa (.str i)
/-- a global by its value, told as data that hangs on nothing -/
structure RepA (K : PySem.W.Frag) (d : D) (v : V) : Prop where
  to : ∀ (i : List Addr) (F : Hp), Rep K i F d v
theorem RepA.int {K : PySem.W.Frag} (i : Int) : RepA K (.int i) (.int i) := ⟨fun _ _ => .int i⟩
theorem RepA.str {K : PySem.W.Frag} (i : Str) : RepA K (.str i) (.str i) := ⟨fun _ _ => .str i⟩
theorem RepA.val {K : PySem.W.Frag} (i : V) : RepA K (.val i) i := ⟨fun _ _ => .val i⟩
theorem pd_glob {x : Str} {v : V} {d : D} {u : Value} {pos : Pos} (ra : RepA X.K d v) (hm : X.mg x = some u) (r : RelV v u) (hg : Gl X x := by rfl) (hd : (x == ("__debug__" : Str)) = false := by decide) : PDE X (.Name x pos) (dC d) :=
  pd_of (pe_glob hg hm r hd) fun S r m σ Q sa re p => Post.ok p (Stp.refl S) sa (ra.to _ _)
theorem pd_bltn {x : Str} {v : V} {u : Value} {pos : Pos} (hm : X.mg x = none) (hv : bootBuiltins x = some u) (r : RelV v u) (hg : Gl X x := by rfl) (hn : x ≠ "__name__" := by decide) (hd : (x == ("__debug__" : Str)) = false := by decide) : PDE X (.Name x pos) (dC (.val v)) :=
  pd_of (pe_bltn hg hm hv r hn hd) fun S r m σ Q sa re p => Post.ok p (Stp.refl S) sa (.val v)

/-! ### operators -/
abbrev D2 := D → D → Mu → Res D
def dBin (f : D2) (a b : DE) : DE := fun e m => (a e m).bind fun x m1 => (b e m1).bind fun y m2 => f x y m2
/-- an operator by values -/
def OD (X : Cx) (f : Value → Value → Sem Value) (g : D2) : Prop :=
  ∀ (pins : List (Addr × Obj)) (s : Shared) (σ : L2.St) (S : Wd) (m : Mu) (x y : D) (vx vy : V) (u w : Value) (Q : VK), Sta X.K S m → Rep X.K S.i S.F x vx → Rep X.K S.i S.F y vy → Inv X pins σ S.H s → RelV vx u → RelV vy w →
    PostD X.K S (g x y m) Q (fun c d H => Fly X c d σ H) → wpAny (model X.prog X.w) X.A (f u w) (EP X pins σ Q) X.xe s
theorem od_of {f : Value → Value → Sem Value} {g : D2} {r : R2} (ho : OpR X f r)
    (k : ∀ (S : Wd) (m : Mu) (x y : D) (vx vy : V) (Q : VK) (W : XK), Sta X.K S m → Rep X.K S.i S.F x vx → Rep X.K S.i S.F y vy → PostD X.K S (g x y m) Q W → r vx vy S.H Q) : OD X f g :=
  fun pins s σ S m x y vx vy u w Q sa rx ry I hu hw p => ho pins s σ S.H vx vy u w Q I hu hw (k S m x y vx vy Q _ sa rx ry p)
/-- one or the other -/
def orD (f g : D2) : D2 := fun x y m => match f x y m with
  | .stuck => g x y m
  | r => r
theorem od_or {f : Value → Value → Sem Value} {g h : D2} (a : OD X f g) (b : OD X f h) : OD X f (orD g h) := by
  intro pins s σ S m x y vx vy u w Q sa rx ry I hu hw p
  unfold orD at p
  split at p
  · exact b pins s σ S m x y vx vy u w Q sa rx ry I hu hw p
  · exact a pins s σ S m x y vx vy u w Q sa rx ry I hu hw p
variable {a b c : Expr} {ta tb tc : DE} {pos : Pos}
theorem pd_two {f : Value → Value → Sem Value} {g : D2} (ha : PDE X a ta) (hb : PDE X b tb) (ho : OD X f g) {S : Wd} {r : En} {m : Mu} {σ : L2.St} {Q : VK} (sa : Sta X.K S m) (re : RelE X.K S r σ)
    (p : PostD X.K S (dBin g ta tb r m) Q (fun c d H => Fly X c d σ H)) {pins : List (Addr × Obj)} {s : Shared} (I : Inv X pins σ S.H s) :
    wpAny (model X.prog X.w) X.A (eval a X.env) (fun v s₁ => wpAny (model X.prog X.w) X.A (eval b X.env) (fun u s₂ => wpAny (model X.prog X.w) X.A (f v u) (EP X pins σ Q) X.xe s₂) X.xe s₁) X.xe s := by
  refine thn (ha S r m σ _ sa re (Post.bindI p (Q' := fun v H => ∃ d m1 T, H = T.H ∧ Stp S T ∧ Sta X.K T m1 ∧ Rep X.K T.i T.F d v ∧ PostD X.K T ((tb r m1).bind fun y m2 => g d y m2) Q (fun c d H => Fly X c d σ H)) fun d m1 v T st sa1 r1 q => ⟨d, m1, T, rfl, st, sa1, r1, q⟩) pins s I) ?_
  rintro v s1 ⟨x, H1, I1, r1, d, m1, T, rfl, st, sa1, rd, q⟩
  refine thn (hb T r m1 σ _ sa1 (re.stp st) (Post.bindI q (Q' := fun w H => ∃ d' m2 U, H = U.H ∧ Stp T U ∧ Sta X.K U m2 ∧ Rep X.K U.i U.F d' w ∧ PostD X.K U (g d d' m2) Q (fun c d H => Fly X c d σ H)) fun d' m2 v U st sa2 r2 q => ⟨d', m2, U, rfl, st, sa2, r2, q⟩) pins s1 I1) ?_
  rintro u s2 ⟨y, H2, I2, r2, d', m2, U, rfl, st2, sa2, rd2, q2⟩
  exact ho pins s2 σ U m2 d d' x y v u Q sa2 (rd.stp st2) rd2 I2 r1 r2 q2
theorem pd_op {op : Operator} {g : D2} (ho : OD X (binaryOp op) g) (ha : PDE X a ta) (hb : PDE X b tb) : PDE X (.BinOp a op b pos) (dBin g ta tb) :=
  fun S r m σ Q sa re p pins s I => wpAny_BinOp (pd_two ha hb ho sa re p I)
theorem pd_cmp {op : CmpOp} {g : D2} (ho : OD X (compareOp op) g) (ha : PDE X a ta) (hb : PDE X b tb) (hm : behindInMarks op b = false := by first | exact nomark _ | rfl) : PDE X (.Compare a [op] [b] pos) (dBin g ta tb) :=
  fun S r m σ Q sa re p pins s I => wpAny_Compare1 (pd_two ha hb ho sa re p I) hm
/-- a test whose value is a bool -/
def dTst (t : DE) : DT := fun e m => (t e m).bind fun d m => match d with
  | .bl b => .ok b m
  | _ => .stuck
theorem EP.bool {pins : List (Addr × Obj)} {σ : L2.St} {S : Wd} {r : Res D} {Q : Bool → Hp → Prop} {W : XK} (p : PostB X.K S (r.bind fun d m => match d with | .bl b => Res.ok b m | _ => .stuck) Q W) :
    PostD X.K S r (fun v H => ∃ b, v = .bl b ∧ Q b H) W := by
  refine Post.bindI p fun d m v T st sa rd q => ?_
  cases rd with
  | bl b => exact ⟨b, rfl, Post.ok q (Stp.refl T) sa rfl⟩
  | _ => exact q.elim
theorem pdt_cmp {op : CmpOp} {g : D2} (ho : OD X (compareOp op) g) (ha : PDE X a ta) (hb : PDE X b tb) (hm : behindInMarks op b = false := by first | exact nomark _ | rfl) : PDT X (.Compare a [op] [b] pos) (dTst (dBin g ta tb)) := by
  intro S r m σ Q sa re p pins s I
  refine wpAny_isTrue_Compare1 (thn (pd_two ha hb ho sa re (EP.bool (pins := pins) (σ := σ) p) I) fun v s1 h1 => thn h1 fun u s2 h2 => thn h2 fun w s3 ⟨x, H1, I1, r1, b, e, q⟩ => ?_) hm
  subst e
  cases r1
  exact wpAny_truthy_bool ⟨H1, I1, q⟩
/-- any expression by its truth -/
def dTr (t : DE) : DT := fun e m => (t e m).bind fun d m => match dTru m d with
  | some b => .ok b m
  | none => .stuck
theorem pdt_truth (ha : PDE X a ta) (he : ∀ whole, isTrue a X.env whole = (do let v ← whole; standAt a.pos; holding [v] (truthy v)) := by intro _; rfl) : PDT X a (dTr ta) := by
  refine pt_of (pt_truth (mxE X a) he) fun S r m σ Q sa re p => ?_
  refine ha S r m σ _ sa re (Post.bindI p fun d m v T st sa rd q => ?_)
  split at q
  · rename_i b e
    exact ⟨b, dTru_ok sa rd e, Post.ok q (Stp.refl T) sa rfl⟩
  · exact q.elim
/-- the same, where a bool must come -/
theorem pdt_val (ha : PDE X a ta) (he : ∀ whole, isTrue a X.env whole = (do let v ← whole; standAt a.pos; holding [v] (truthy v)) := by intro _; rfl) : PDT X a (dTst ta) := by
  refine pt_of (pt_val (mxE X a) he) fun S r m σ Q sa re p => ?_
  exact ha S r m σ _ sa re (EP.bool (pins := []) (σ := σ) p)
def dNotT (t : DT) : DT := fun e m => (t e m).bind fun b m => .ok (!b) m
theorem pdt_not {t : DT} (ha : PDT X a t) : PDT X (.UnaryOp .Not a pos) (dNotT t) := by
  refine pt_of (pt_not (mxT X a)) fun S r m σ Q sa re p => ?_
  refine ha S r m σ _ sa re (Post.bindI p fun d m v T st sa rd q => ?_)
  have rd : d = v := rd
  subst rd
  exact Post.ok q (Stp.refl T) sa rfl
def dAndT (t u : DT) : DT := fun e m => (t e m).bind fun b m => if b then u e m else .ok false m
def dOrT (t u : DT) : DT := fun e m => (t e m).bind fun b m => if b then .ok true m else u e m
variable {rest : List Expr} {tt tu : DT}
theorem pdw_and1 (ha : PDT X a tt) : PDW X (.BoolOp .And [a] pos) tt := fun S r m σ Q sa re p wh pins s I => (pw_and1 (mxT X a)).run wh pins s σ S.H Q I (ha S r m σ Q sa re p)
theorem pdw_or1 (ha : PDT X a tt) : PDW X (.BoolOp .Or [a] pos) tt := fun S r m σ Q sa re p wh pins s I => (pw_or1 (mxT X a)).run wh pins s σ S.H Q I (ha S r m σ Q sa re p)
theorem pdw_and (ha : PDT X a tt) (hb : PDW X (.BoolOp .And (b :: rest) pos) tu) : PDW X (.BoolOp .And (a :: b :: rest) pos) (dAndT tt tu) := by
  intro S r m σ Q sa re p wh pins s I
  refine (pw_and (mxT X a) (mxW X _)).run wh pins s σ S.H Q I (ha S r m σ _ sa re (Post.bindI p fun d m v T st sa rd q => ?_))
  have rd : d = v := rd
  subst rd
  cases d with
  | true => exact iteT (hb T r m σ Q sa (re.stp st) q)
  | false => exact iteF (Post.ok q (Stp.refl T) sa rfl)
theorem pdw_or (ha : PDT X a tt) (hb : PDW X (.BoolOp .Or (b :: rest) pos) tu) : PDW X (.BoolOp .Or (a :: b :: rest) pos) (dOrT tt tu) := by
  intro S r m σ Q sa re p wh pins s I
  refine (pw_or (mxT X a) (mxW X _)).run wh pins s σ S.H Q I (ha S r m σ _ sa re (Post.bindI p fun d m v T st sa rd q => ?_))
  have rd : d = v := rd
  subst rd
  cases d with
  | true => exact iteT (Post.ok q (Stp.refl T) sa rfl)
  | false => exact iteF (hb T r m σ Q sa (re.stp st) q)
theorem PDW.pt {e : Expr} {t : DT} (h : PDW X e t) : PDT X e t := fun S r m σ Q sa re p pins s I => h S r m σ Q sa re p _ pins s I
/-- and, or, not as values, of bools -/
def dAnd (t u : DE) : DE := fun e m => (t e m).bind fun d m => match d with
  | .bl true => u e m
  | .bl false => .ok (.bl false) m
  | _ => .stuck
def dOr (t u : DE) : DE := fun e m => (t e m).bind fun d m => match d with
  | .bl false => u e m
  | .bl true => .ok (.bl true) m
  | _ => .stuck
theorem pd_one {op} (h : PDE X a ta) : PDE X (.BoolOp op [a] pos) ta := pd_of (pe_one (mxE X a)) h
theorem pd_and (ha : PDE X a ta) (hb : PDE X (.BoolOp .And (b :: rest) pos) tb) : PDE X (.BoolOp .And (a :: b :: rest) pos) (dAnd ta tb) := by
  refine pd_of (pe_and (mxE X a) (mxE X _)) fun S r m σ Q sa re p => ?_
  refine ha S r m σ _ sa re (Post.bindI p fun d m v T st sa rd q => ?_)
  cases rd with
  | bl b =>
    refine ⟨b, rfl, ?_⟩
    cases b with
    | true => exact iteT (hb T r m σ Q sa (re.stp st) q)
    | false => exact iteF (Post.ok q (Stp.refl T) sa (.bl false))
  | _ => exact q.elim
theorem pd_or (ha : PDE X a ta) (hb : PDE X (.BoolOp .Or (b :: rest) pos) tb) : PDE X (.BoolOp .Or (a :: b :: rest) pos) (dOr ta tb) := by
  refine pd_of (pe_or (mxE X a) (mxE X _)) fun S r m σ Q sa re p => ?_
  refine ha S r m σ _ sa re (Post.bindI p fun d m v T st sa rd q => ?_)
  cases rd with
  | bl b =>
    refine ⟨b, rfl, ?_⟩
    cases b with
    | true => exact iteT (Post.ok q (Stp.refl T) sa (.bl true))
    | false => exact iteF (hb T r m σ Q sa (re.stp st) q)
  | _ => exact q.elim
def dNot (t : DE) : DE := fun e m => (t e m).bind fun d m => match d with
  | .bl b => .ok (.bl !b) m
  | _ => .stuck
theorem pd_not (ha : PDE X a ta) : PDE X (.UnaryOp .Not a pos) (dNot ta) := by
  refine pd_of (pe_not (mxE X a)) fun S r m σ Q sa re p => ?_
  refine ha S r m σ _ sa re (Post.bindI p fun d m v T st sa rd q => ?_)
  cases rd with
  | bl b => exact ⟨b, rfl, Post.ok q (Stp.refl T) sa (.bl _)⟩
  | _ => exact q.elim
def dIf (t : DT) (u w : DE) : DE := fun e m => (t e m).bind fun b m => if b then u e m else w e m
theorem pd_if {c : Expr} (hc : PDT X c tt) (ha : PDE X a ta) (hb : PDE X b tb) : PDE X (.IfExp c a b pos) (dIf tt ta tb) := by
  refine pd_of (pe_ifExp (mxT X c) (mxE X a) (mxE X b)) fun S r m σ Q sa re p => ?_
  refine hc S r m σ _ sa re (Post.bindI p fun d m v T st sa rd q => ?_)
  have rd : d = v := rd
  subst rd
  cases d with
  | true => exact iteT (ha T r m σ Q sa (re.stp st) q)
  | false => exact iteF (hb T r m σ Q sa (re.stp st) q)
/-- an expression, then the rest -/
theorem PDE.run {γ δ : Type} {R' : Wd → γ → δ → Prop} {a : Expr} {ta : DE} (ha : PDE X a ta) {S : Wd} {r : En} {m : Mu} {σ : L2.St} {f : D → Mu → Res γ} {Q : δ → Hp → Prop} (sa : Sta X.K S m) (re : RelE X.K S r σ)
    (p : Post R' X.K S ((ta r m).bind f) Q (fun c d H => Fly X c d σ H)) {pins : List (Addr × Obj)} {s : Shared} (I : Inv X pins σ S.H s) :
    wpAny (model X.prog X.w) X.A (eval a X.env) (fun v s1 => ∃ (x : V) (d : D) (m1 : Mu) (T : Wd), Stp S T ∧ Sta X.K T m1 ∧ Rep X.K T.i T.F d x ∧ RelV x v ∧ Inv X pins σ T.H s1 ∧ Post R' X.K T (f d m1) Q (fun c d H => Fly X c d σ H)) X.xe s := by
  refine thn (ha S r m σ _ sa re (Post.bindI p (Q' := fun v H => ∃ d m1 T, H = T.H ∧ Stp S T ∧ Sta X.K T m1 ∧ Rep X.K T.i T.F d v ∧ Post R' X.K T (f d m1) Q (fun c d H => Fly X c d σ H)) fun d m1 v T st sa1 r1 q => ⟨d, m1, T, rfl, st, sa1, r1, q⟩) pins s I) ?_
  rintro v s1 ⟨x, H1, I1, r1, d, m1, T, rfl, st, sa1, rd, q⟩
  exact ⟨x, d, m1, T, st, sa1, rd, r1, I1, q⟩
theorem OD.run {γ δ : Type} {R' : Wd → γ → δ → Prop} {f : Value → Value → Sem Value} {g : D2} (ho : OD X f g) {S : Wd} {m : Mu} {σ : L2.St} {h : D → Mu → Res γ} {Q : δ → Hp → Prop} {x y : D} {vx vy : V} {u w : Value} (sa : Sta X.K S m)
    (rx : Rep X.K S.i S.F x vx) (ry : Rep X.K S.i S.F y vy) (hu : RelV vx u) (hw : RelV vy w)
    (p : Post R' X.K S ((g x y m).bind h) Q (fun c d H => Fly X c d σ H)) {pins : List (Addr × Obj)} {s : Shared} (I : Inv X pins σ S.H s) :
    wpAny (model X.prog X.w) X.A (f u w) (fun v s1 => ∃ (x : V) (d : D) (m1 : Mu) (T : Wd), Stp S T ∧ Sta X.K T m1 ∧ Rep X.K T.i T.F d x ∧ RelV x v ∧ Inv X pins σ T.H s1 ∧ Post R' X.K T (h d m1) Q (fun c d H => Fly X c d σ H)) X.xe s := by
  refine thn (ho pins s σ S m x y vx vy u w _ sa rx ry I hu hw (Post.bindI p (Q' := fun v H => ∃ d m1 T, H = T.H ∧ Stp S T ∧ Sta X.K T m1 ∧ Rep X.K T.i T.F d v ∧ Post R' X.K T (h d m1) Q (fun c d H => Fly X c d σ H)) fun d m1 v T st sa1 r1 q => ⟨d, m1, T, rfl, st, sa1, r1, q⟩)) ?_
  rintro v s1 ⟨x, H1, I1, r1, d, m1, T, rfl, st, sa1, rd, q⟩
  exact ⟨x, d, m1, T, st, sa1, rd, r1, I1, q⟩
/-- a < b < c -/
def dChain (g h : D2) (ta tb tc : DE) : DE := fun e m => (ta e m).bind fun x m1 => (tb e m1).bind fun y m2 => (g x y m2).bind fun z m3 => match z with
  | .bl true => (tc e m3).bind fun w m4 => h y w m4
  | .bl false => .ok (.bl false) m3
  | _ => .stuck
theorem pd_chain {op op' : CmpOp} {g h : D2} (ho : OD X (compareOp op) g) (ho' : OD X (compareOp op') h) (ha : PDE X a ta) (hb : PDE X b tb) (hc : PDE X c tc)
    (hm : lastMarks [op, op'] [b, c] = false := by with_unfolding_all rfl) : PDE X (.Compare a [op, op'] [b, c] pos) (dChain g h ta tb tc) := by
  intro S r m σ Q sa re p pins s I
  refine Compare_chain (thn (ha.run sa re p I) ?_) hm
  rintro v s1 ⟨x, d, m1, T, st, sa1, rd, r1, I1, q⟩
  refine chain_link (thn (hb.run sa1 (re.stp st) q I1) ?_)
  rintro u s2 ⟨y, d', m2, U, st2, sa2, rd2, r2, I2, q2⟩
  refine thn (ho.run sa2 (rd.stp st2) rd2 r1 r2 q2 I2) ?_
  rintro w s3 ⟨z, d3, m3, Y, st3, sa3, rd3, r3, I3, q3⟩
  cases rd3 with
  | bl k =>
    cases r3
    refine wpAny_truthy_bool ?_
    cases k with
    | false => exact ite_ff ⟨.bl false, _, I3, rfl, Post.ok q3 (Stp.refl Y) sa3 (.bl false)⟩
    | true =>
      refine ite_tt (chain_last (thn (hc.run sa3 (((re.stp st).stp st2).stp st3) q3 I3) ?_))
      rintro w' s4 ⟨z', d4, m4, Z, st4, sa4, rd4, r4, I4, q4⟩
      exact ho' pins s4 σ Z m4 d' d4 y z' u w' Q sa4 ((rd2.stp st3).stp st4) rd4 I4 r2 r4 q4
  | _ => exact (show False from q3).elim
end
end DL

namespace DL
open PySem PySem.Spec PyProof.Rows L2
variable [LamTab]

/-! ### argument lists, displays -/
def isStar : Expr → Bool
  | .Starred _ _ => true
  | _ => false
theorem se_cons (e : Expr) (rest : List Expr) (env : Env) (h : isStar e = false) : starEach (e :: rest) env = (false, eval e env) :: starEach rest env := by
  cases e <;> first | rfl | (cases h)
theorem se_any (pos : Pos) (env : Env) : ∀ (es : List Expr), es.all (fun e => !isStar e) = true → (backTo pos (starEach es env)).any (·.1) = false := fun es => by
  induction es with
  | nil => intro _; rfl
  | cons e es ih =>
    intro h
    simp only [List.all_cons, Bool.and_eq_true, Bool.not_eq_true'] at h
    rw [se_cons e es env h.1]
    exact ih h.2
def dNil : DA := fun _ m => .ok [] m
def dCons (t : DE) (u : DA) : DA := fun e m => (t e m).bind fun d m1 => (u e m1).bind fun ds m2 => .ok (d :: ds) m2
section
variable {X : Cx} {a : Expr} {es : List Expr} {ta : DE} {t : DA} {pos : Pos}
theorem pda_nil : PDA X [] dNil := pa_of pa_nil fun S r m σ Q sa re p => Post.ok p (Stp.refl S) sa .nil
theorem pda_cons (ha : PDE X a ta) (hr : PDA X es t) (hs : starEach (a :: es) X.env = (false, eval a X.env) :: starEach es X.env := by exact se_cons _ _ _ rfl) : PDA X (a :: es) (dCons ta t) := by
  refine pa_of (pa_cons (mxE X a) (mxA X es) hs) fun S r m σ Q sa re p => ?_
  refine ha S r m σ _ sa re (Post.bindI p fun d m1 v T st sa1 rd q => ?_)
  refine hr T r m1 σ _ sa1 (re.stp st) (Post.bindI q fun ds m2 vs U st2 sa2 rds q2 => ?_)
  exact Post.ok q2 (Stp.refl U) sa2 (.cons (rd.stp st2) rds)
theorem pda_str {i : Str} {j : Nat} {p : Pos} (hr : PDA X es t) : PDA X (.Constant (.str i) j p :: es) (dCons (dC (.str i)) t) := pda_cons pd_str hr (se_cons _ _ _ rfl)
theorem pda_int {i : Int} {j : Nat} {p : Pos} (hr : PDA X es t) : PDA X (.Constant (.int i) j p :: es) (dCons (dC (.int i)) t) := pda_cons pd_int hr (se_cons _ _ _ rfl)
theorem pda_bl {i : Bool} {j : Nat} {p : Pos} (hr : PDA X es t) : PDA X (.Constant (.bool i) j p :: es) (dCons (dC (.bl i)) t) := pda_cons pd_bl hr (se_cons _ _ _ rfl)
theorem pda_non {j : Nat} {p : Pos} (hr : PDA X es t) : PDA X (.Constant .none j p :: es) (dCons (dC .non) t) := pda_cons pd_non hr (se_cons _ _ _ rfl)
theorem PDA.run {γ δ : Type} {R' : Wd → γ → δ → Prop} (ha : PDA X es t) {S : Wd} {r : En} {m : Mu} {σ : L2.St} {f : List D → Mu → Res γ} {Q : δ → Hp → Prop} (sa : Sta X.K S m) (re : RelE X.K S r σ)
    (p : Post R' X.K S ((t r m).bind f) Q (fun c d H => Fly X c d σ H)) {pins : List (Addr × Obj)} {s : Shared} (I : Inv X pins σ S.H s) (pos : Pos) :
    wpAny (model X.prog X.w) X.A (spliced (backTo pos (starEach es X.env))) (fun us s1 => ∃ (xs : List V) (ds : List D) (m1 : Mu) (T : Wd), Stp S T ∧ Sta X.K T m1 ∧ Reps X.K T.i T.F ds xs ∧ Vals xs us ∧ Inv X pins σ T.H s1 ∧ Post R' X.K T (f ds m1) Q (fun c d H => Fly X c d σ H)) X.xe s := by
  refine thn (ha S r m σ _ sa re (Post.bindI p (Q' := fun v H => ∃ d m1 T, H = T.H ∧ Stp S T ∧ Sta X.K T m1 ∧ Reps X.K T.i T.F d v ∧ Post R' X.K T (f d m1) Q (fun c d H => Fly X c d σ H)) fun d m1 v T st sa1 r1 q => ⟨d, m1, T, rfl, st, sa1, r1, q⟩) pos pins s I) ?_
  rintro us s1 ⟨xs, H1, I1, r1, d, m1, T, rfl, st, sa1, rd, q⟩
  exact ⟨xs, d, m1, T, st, sa1, rd, r1, I1, q⟩
/-- a tuple; a list that is never changed; a list of the store -/
def dTup (t : DA) : DE := fun e m => (t e m).bind fun ds m1 => if ds.length ≤ sizeLine then .ok (.tup ds) m1 else .stuck
def dLst (t : DA) : DE := fun e m => (t e m).bind fun ds m1 => if ds.length ≤ sizeLine then .ok (.lst ds) m1 else .stuck
def dLoc (t : DA) : DE := fun e m => (t e m).bind fun ds m1 => if ds.length ≤ sizeLine then .ok (.loc m1.length) (m1 ++ [.lst ds]) else .stuck
theorem pd_tup {x1} (h : PDA X es t) : PDE X (.Tuple es x1 pos) (dTup t) := by
  refine pd_of (pe_tup (mxA X es)) fun S r m σ Q sa re p => ?_
  refine h S r m σ _ sa re (Post.bindI p fun ds m1 vs T st sa1 rds q => ?_)
  split at q
  · rename_i hl
    refine ⟨by rw [← rds.len]; exact hl, fun p hp => ?_⟩
    have st1 := Stp.new sa1 (o := .tup vs) hp
    exact q (.ref p) (T.new p (.tup vs)) st1 (sa1.new hp) (.tup (.inl (.inl upd_same)) (rds.stp st1))
  · exact q.elim
theorem pd_lst (h : PDA X es t) : PDE X (.List es pos) (dLst t) := by
  refine pd_of (pe_lst (mxA X es)) fun S r m σ Q sa re p => ?_
  refine h S r m σ _ sa re (Post.bindI p fun ds m1 vs T st sa1 rds q => ?_)
  split at q
  · rename_i hl
    refine ⟨by rw [← rds.len]; exact hl, fun p hp => ?_⟩
    have st1 := Stp.new sa1 (o := .lst vs) hp
    exact q (.ref p) (T.new p (.lst vs)) st1 (sa1.new hp) (.lst (.inl (.inl upd_same)) (rds.stp st1))
  · exact q.elim
theorem pd_loc (h : PDA X es t) : PDE X (.List es pos) (dLoc t) := by
  refine pd_of (pe_lst (mxA X es)) fun S r m σ Q sa re p => ?_
  refine h S r m σ _ sa re (Post.bindI p fun ds m1 vs T st sa1 rds q => ?_)
  split at q
  · rename_i hl
    refine ⟨by rw [← rds.len]; exact hl, fun p hp => ?_⟩
    have st1 := Stp.tok sa1 (o := .lst vs) hp
    refine q (.ref p) (T.tok p (.lst vs)) st1 (sa1.tok hp (q := .lst ds) ⟨vs, upd_same, rds.stp st1⟩) (.loc ?_)
    show (T.i ++ [p])[m1.length]? = some p
    rw [← sa1.len, List.getElem?_append_right (Nat.le_refl _), Nat.sub_self]
    rfl
  · exact q.elim
end

/-! ### defs -/
/-- a def's promise by a function upon data -/
def spD (K : PySem.W.Frag) (n : Nat) (F : DFn) : Sp := fun vs H Q E => vs.length = n ∧ ∃ (S : Wd) (m : Mu) (ds : List D), S.H = H ∧ Sta K S m ∧ Reps K S.i S.F ds vs ∧ PostD K S (F ds m) Q E
abbrev FnD (P : Program) (w : World) (K : PySem.W.Frag) (mg : Str → Option Value) (base : Heap) (k : Nat) (f : Addr) (fd : FuncData) (ps : List Str) (F : DFn) : Prop := FnOk P w K mg base (L2.CX P w) k f fd ps (spD K ps.length F)
def env0 (N : Nat) (ds : List D) : En := ds.map some ++ List.replicate (N - ds.length) none
def dFn (N : Nat) (body : DS) : DFn := fun ds m => match body (env0 N ds) m with
  | .nx _ m1 => .ok .non m1
  | .rt d m1 => .ok d m1
  | .exc C fs _ m1 => .exc C fs m1
  | _ => .stuck
theorem relE_start {K : PySem.W.Frag} {S : Wd} {ds : List D} {vs : List V} {N : List Str} (r : Reps K S.i S.F ds vs) : RelE K S (env0 N.length ds) (L2.start N vs) := by
  have hl := r.len
  refine ⟨by simp [env0, L2.start, hl], fun i d e => ?_⟩
  unfold env0 at e
  by_cases hi : i < ds.length
  · rw [List.getElem?_append_left (by simpa using hi), List.getElem?_map] at e
    cases q : ds[i]? with
    | none => rw [q] at e; cases e
    | some d' =>
      rw [q] at e; cases e
      obtain ⟨v, h1, h2⟩ := r.get q
      refine ⟨v, ?_, h2⟩
      unfold L2.start
      rw [List.getElem?_append_left (by rw [List.length_map, ← hl]; exact hi), List.getElem?_map, h1]
      rfl
  · rw [List.getElem?_append_right (by simpa using hi), List.getElem?_replicate] at e
    split at e <;> cases e
section
variable {P : Program} {w : World} {K : PySem.W.Frag} {mg : Str → Option Value} {base : Heap}
theorem fnD_of {x qual : Str} {params : Arguments} {body : List Stmt} {scope : Scope} {dvs : List V} {kws : List (Str × V)} {f : Addr} {fd : FuncData} {N ps : List Str} {k : Nat} {t : DS} (F : FunD K x qual params body scope dvs kws f fd) (S : FnScope N ps scope)
    (h : ∀ (cdv : Value) (A : Around) (outer : List Env) (s : Shared) (H : Hp) (E : XK), Room k (A.deeper (envOfC qual scope s.heap.objs.size f cdv)) → PDSs (cxOf (L2.CX P w) P w K mg base N qual scope f cdv A outer s H E) body t) :
    FnD P w K mg base (k + 1) f fd ps (dFn N.length t) := by
  refine F.ok S (fun vs H Q E h => h.1) fun cdv A outer s H vs Q E hr hsp => ⟨_, mxSs _ body, ?_⟩
  obtain ⟨_, T, m, ds, rfl, sa, rd, p⟩ := hsp
  refine h cdv A outer s T.H E hr T (env0 N.length ds) m (L2.start N vs) _ sa (relE_start rd) ?_
  have tk : Takes (cxOf (L2.CX P w) P w K mg base N qual scope f cdv A outer s T.H E) (fun cls d _ H => E cls d H) := takes_of rfl rfl rfl rfl
  unfold dFn at p
  cases q : t (env0 N.length ds) m with
  | stuck => rw [q] at p; exact p.elim
  | nx e m1 => rw [q] at p; exact fun σ U st sa1 re => p .non U st sa1 .non
  | rt d m1 => rw [q] at p; exact fun v U st sa1 r1 => p v U st sa1 r1
  | bk e m1 => rw [q] at p; exact p.elim
  | ct e m1 => rw [q] at p; exact p.elim
  | exc C fs e m1 => rw [q] at p; exact fun dd vs σ U st hn sa1 re h1 h2 => Fly.of tk (p dd vs U st hn sa1 h1 h2)
/-- another function that answers where this one does -/
theorem FnD.imp' {k : Nat} {f : Addr} {fd : FuncData} {ps : List Str} {F G : DFn} (h : FnD P w K mg base k f fd ps F) (e : ∀ ds m, G ds m ≠ .stuck → F ds m = G ds m) : FnD P w K mg base k f fd ps G :=
  FnOk.imp h fun vs H Q E ⟨h1, S, m, ds, h2, h3, h4, h5⟩ => ⟨h1, S, m, ds, h2, h3, h4, by
    by_cases hs : G ds m = .stuck
    · rw [hs] at h5; exact h5.elim
    · rw [e ds m hs]; exact h5⟩
end
/-- how a def is bound: the written arguments, then these -/
structure Bd (K : PySem.W.Frag) (fd : FuncData) (ps : List Str) (dds : List D) : Prop where
  ex : ∃ (ds : List Value) (dvs : List V), Binds K fd ps ds ∧ Vals dvs ds ∧ ∀ (i : List Addr) (F : Hp), Reps K i F dds dvs
theorem Bd.nil {K : PySem.W.Frag} {fd : FuncData} {ps : List Str} (h : Binds K fd ps []) : Bd K fd ps [] := ⟨[], [], h, .nil, fun _ _ => .nil⟩
section
variable {X : Cx} {k : Nat} {f : Addr} {fd : FuncData} {ps : List Str} {G : DFn} {dds : List D}
theorem run_fnD {pins : List (Addr × Obj)} {σ : L2.St} {S : Wd} {m : Mu} {s : Shared} {Q : VK} {us : List Value} {vs : List V} {das : List D} (F : FnD X.prog X.w X.K X.mg X.base k f fd ps G) (hr : Room k X.A) (hb : Bd X.K fd ps dds)
    (I : Inv X pins σ S.H s) (sa : Sta X.K S m) (r : Reps X.K S.i S.F das vs) (rv : Vals vs us) (hl : (das ++ dds).length = ps.length) (h : PostD X.K S (G (das ++ dds) m) Q (fun c d H => Fly X c d σ H)) : wpAny (model X.prog X.w) X.A (call (.ref f) us) (EP X pins σ Q) X.xe s := by
  obtain ⟨ds, dvs, hb, hd, hD⟩ := hb.ex
  have r1 : Reps X.K S.i S.F (das ++ dds) (vs ++ dvs) := r.append (hD _ _)
  have r2 : Vals (vs ++ dvs) (us ++ ds) := rv.append hd
  have hlv : (vs ++ dvs).length = ps.length := by rw [← r1.len]; exact hl
  have hl2 : (us ++ ds).length = ps.length := by rw [← r2.length]; exact hlv
  refine wpAny_call (codeAny_mono (F.run X.A X.stack s S.H ⟨us, []⟩ (us ++ ds) (vs ++ dvs) Q (fun c d H => Fly X c d σ H) hr I.env0 (hb s us I.kIn hl2) r2 ⟨hlv, S, m, _, rfl, sa, r1, h⟩) fun r s' hq => ?_)
  cases r with
  | error e =>
    obtain ⟨a, B, sI, pins', σ', H', cls, d, e1, I', nb, up, sky, na, os, ag, e2, fl⟩ := XE.of_call I (W := fun c d σ' H => σ' = σ ∧ Fly X c d σ H) (fun cls d H' h => ⟨rfl, h⟩) hq
    exact fl e s' ⟨a, B, sI, pins', σ', H', cls, d, e1, I', nb, up, sky, na, os, ag, rfl, rfl, e2, rfl⟩
  | ok fl =>
    cases fl with
    | ret u => exact I.after hq
    | next => exact False.elim hq
    | brk => exact False.elim hq
    | cont => exact False.elim hq
def dCall (G : DFn) (n : Nat) (dds : List D) (t : DA) : DE := fun e m => (t e m).bind fun ds m1 => if (ds ++ dds).length = n then G (ds ++ dds) m1 else .stuck
variable {x mn : Str} {p pos apos : Pos} {e o : Expr} {es : List Expr} {t : DA} {to : DE}
theorem pd_call (F : FnD X.prog X.w X.K X.mg X.base k f fd ps G) (hr : Room k X.A) (hm : X.mg x = some (.ref f)) (hk : PySem.W.keepIn X.K (.ref f) = true) (hb : Bd X.K fd ps dds) (ha : PDA X (e :: es) t)
    (hg : Gl X x := by rfl) (hdb : (x == ("__debug__" : Str)) = false := by decide) (he : starEach (e :: es) X.env = (false, eval e X.env) :: starEach es X.env := by exact se_cons _ _ _ rfl) (hpl : (backTo pos (starEach es X.env)).any (·.1) = false := by exact se_any _ _ _ rfl) :
    PDE X (.Call (.Name x p) (e :: es) [] pos) (dCall G ps.length dds t) := by
  intro S r m σ Q sa re q pins s I
  refine wpAny_Call_Name_kw (ld_glob I hg hm ?_ hdb)
  refine PySem.W.callWith_K (h₀ := X.base) I.ok.mod.kin hk (thn (ha.run sa re q I pos) ?_) he hpl
  rintro us s1 ⟨xs, ds, m1, T, st, sa1, rds, rv, I1, q1⟩
  refine ⟨I1.kIn, ?_⟩
  split at q1
  · rename_i hl
    exact run_fnD F hr hb I1 sa1 rds rv hl q1
  · exact q1.elim
theorem pd_call0 (F : FnD X.prog X.w X.K X.mg X.base k f fd ps G) (hr : Room k X.A) (hm : X.mg x = some (.ref f)) (hk : PySem.W.keepIn X.K (.ref f) = true) (hb : Bd X.K fd ps dds)
    (hg : Gl X x := by rfl) (hdb : (x == ("__debug__" : Str)) = false := by decide) : PDE X (.Call (.Name x p) [] [] pos) (dCall G ps.length dds dNil) := by
  intro S r m σ Q sa re q pins s I
  refine wpAny_Call_Name_kw (ld_glob I hg hm ?_ hdb)
  have q : PostD X.K S (if ([] ++ dds).length = ps.length then G ([] ++ dds) m else .stuck) Q _ := q
  split at q
  · rename_i hl
    exact PySem.W.callWith_K0 I.kIn hk (run_fnD (us := []) F hr hb I sa .nil .nil hl q)
  · exact q.elim

/-! ### objects -/
/-- the class and the attributes of an instance that never changes, or of the store -/
def insOf (m : Mu) : D → Option (Addr × List Str × List D)
  | .obj c ds => some (c.a, c.ns, ds)
  | .loc n => match m[n]? with
    | some (.ins C fs) => some (C, fs.map (·.1), fs.map (·.2))
    | _ => none
  | _ => none
theorem RepF.split {K : PySem.W.Frag} {i : List Addr} {F : Hp} : ∀ {fs : List (Str × D)} {vs : List (Str × V)}, RepF K i F fs vs → vs.map (·.1) = fs.map (·.1) ∧ Reps K i F (fs.map (·.2)) (vs.map (·.2))
  | _, _, .nil => ⟨rfl, .nil⟩
  | _, _, .cons h r => ⟨by simp [(RepF.split r).1], .cons h (RepF.split r).2⟩
theorem insOf_ok {K : PySem.W.Frag} {S : Wd} {m : Mu} {d : D} {v : V} {C : Addr} {ns : List Str} {ds : List D} (sa : Sta K S m) (r : Rep K S.i S.F d v) (h : insOf m d = some (C, ns, ds)) :
    ∃ a dx vs, v = .ref a ∧ S.H a = some (.ins C dx vs) ∧ vs.map (·.1) = ns ∧ Reps K S.i S.F ds (vs.map (·.2)) := by
  cases r with
  | obj h1 h2 h3 => cases h; exact ⟨_, _, _, rfl, sa.sub _ _ h1, h2, h3⟩
  | @loc n a h1 =>
    unfold insOf at h
    dsimp only at h
    split at h
    · rename_i C' fs e
      cases h
      obtain ⟨dx, vs, q1, q2⟩ := sa.ok n a _ h1 e
      exact ⟨a, dx, vs, rfl, q1, q2.split.1, q2.split.2⟩
    · cases h
  | _ => cases h
/-- the i-th name is f, and none ahead -/
theorem lookup_at {α : Type} {f : Str} : ∀ {vs : List (Str × α)} {i : Nat} {v : α}, (vs.map (·.1))[i]? = some f → f ∉ (vs.map (·.1)).take i → (vs.map (·.2))[i]? = some v → vs.lookup f = some v
  | [], _, _, h, _, _ => by simp at h
  | (g, x) :: r, 0, v, h, _, h3 => by
    simp at h h3; subst h; subst h3
    simp [List.lookup_cons]
  | (g, x) :: r, i + 1, v, h, h2, h3 => by
    have hne : f ≠ g := by
      intro e; subst e
      exact h2 (by simp)
    rw [List.lookup_cons]
    have : (f == g) = false := by simpa using hne
    rw [this]
    refine lookup_at (i := i) (by simpa using h) (fun z => h2 ?_) (by simpa using h3)
    simp only [List.map_cons, List.take_succ_cons]
    exact List.mem_cons_of_mem _ z
theorem lookup_not {α : Type} {f : Str} : ∀ {vs : List (Str × α)}, f ∉ vs.map (·.1) → vs.lookup f = none
  | [], _ => rfl
  | (g, x) :: r, h => by
    have hne : f ≠ g := fun e => h (by subst e; simp)
    rw [List.lookup_cons]
    have : (f == g) = false := by simpa using hne
    rw [this]
    exact lookup_not fun z => h (by simp only [List.map_cons]; exact List.mem_cons_of_mem _ z)
/-- e.f, for each class the place of f -/
def fldAt (rows : List (Kl × Nat)) (C : Addr) (ns : List Str) (ds : List D) : Option D := match rows with
  | [] => none
  | (c, i) :: rest => if C = c.a ∧ ns = c.ns then ds[i]? else fldAt rest C ns ds
def dFld (rows : List (Kl × Nat)) (t : DE) : DE := fun e m => (t e m).bind fun d m1 => match insOf m1 d with
  | some (C, ns, ds) => match fldAt rows C ns ds with
    | some x => .ok x m1
    | none => .stuck
  | none => .stuck
structure FldOk (K : PySem.W.Frag) (f : Str) (c : Kl) (i : Nat) : Prop where
  cl : Cls K c.a
  no : NoAttr K c.a f
  at_ : c.ns[i]? = some f
  fst : f ∉ c.ns.take i
theorem fldAt_ok {K : PySem.W.Frag} {f : Str} : ∀ {rows : List (Kl × Nat)} {C : Addr} {ns : List Str} {ds : List D} {d : D}, (∀ r ∈ rows, FldOk K f r.1 r.2) → fldAt rows C ns ds = some d → ∃ c i, FldOk K f c i ∧ C = c.a ∧ ns = c.ns ∧ ds[i]? = some d
  | [], _, _, _, _, _, h => by cases h
  | (c, i) :: rest, C, ns, ds, d, hr, h => by
    unfold fldAt at h
    split at h
    · rename_i e
      exact ⟨c, i, hr _ List.mem_cons_self, e.1, e.2, h⟩
    · exact fldAt_ok (fun r hm => hr r (List.mem_cons_of_mem _ hm)) h
theorem pd_fld {f : Str} {rows : List (Kl × Nat)} (he : PDE X o to) (hrows : ∀ r ∈ rows, FldOk X.K f r.1 r.2) (hb : attributeBase o f X.env (eval o X.env) = eval o X.env := by rfl) : PDE X (.Attribute o f pos) (dFld rows to) := by
  refine pd_of (pe_fld (mxE X o) hb) fun S r m σ Q sa re p => ?_
  refine he S r m σ _ sa re (Post.bindI p fun d m1 v T st sa1 rd q => ?_)
  split at q
  · rename_i C ns ds e
    split at q
    · rename_i x ex
      obtain ⟨c, i, ok, rfl, rfl, hx⟩ := fldAt_ok hrows ex
      obtain ⟨a, dx, vs, rfl, h1, h2, h3⟩ := insOf_ok sa1 rd e
      obtain ⟨y, hy, ry⟩ := h3.get hx
      exact ⟨a, c.a, dx, vs, y, rfl, h1, ok.cl, ok.no, lookup_at (by rw [h2]; exact ok.at_) (by rw [h2]; exact ok.fst) hy, Post.ok q (Stp.refl T) sa1 ry⟩
    · exact q.elim
  · exact q.elim
end
end DL

namespace DL
open PySem PySem.Spec PyProof.Rows L2
variable [LamTab]

/-- the written arguments, then the defaults -/
def padF (n : Nat) (dds : List D) (G : DFn) : DFn := fun ds m => if (ds ++ dds).length = n then G (ds ++ dds) m else .stuck
section
variable (P : Program) (w : World) (K : PySem.W.Frag) (mg : Str → Option Value) (base : Heap)
/-- a def by its global name -/
structure FT (k : Nat) (x : Str) (G : DFn) : Prop where
  ex : ∃ (f : Addr) (fd : FuncData) (ps : List Str) (dds : List D) (G0 : DFn), mg x = some (.ref f) ∧ PySem.W.keepIn K (.ref f) = true ∧ FnD P w K mg base k f fd ps G0 ∧ Bd K fd ps dds ∧ G = padF ps.length dds G0
/-- a method of the class at C -/
structure MT (k : Nat) (mn : Str) (C : Addr) (G : DFn) : Prop where
  ex : ∃ (f : Addr) (fd : FuncData) (ps : List Str) (dds : List D) (G0 : DFn), PySem.W.findIn K (.ref C) mn = some (some (.ref f)) ∧ PySem.W.isFn K (.ref f) = true ∧ PySem.W.keepIn K (.ref f) = true ∧ FnD P w K mg base k f fd ps G0 ∧ Bd K fd ps dds ∧ G = padF ps.length dds G0
end
section
variable {X : Cx}
/-- a call at some depth below -/
theorem run_fnA {k : Nat} {f : Addr} {fd : FuncData} {ps : List Str} {G : DFn} {dds : List D} {A : Around} {pins : List (Addr × Obj)} {σ : L2.St} {S : Wd} {m : Mu} {s : Shared} {Q : VK} {us : List Value} {vs : List V} {das : List D} (F : FnD X.prog X.w X.K X.mg X.base k f fd ps G) (hr : Room k A) (hb : Bd X.K fd ps dds)
    (hA : A.frames = X.A.frames) (I : Inv X pins σ S.H s) (sa : Sta X.K S m) (r : Reps X.K S.i S.F das vs) (rv : Vals vs us) (h : PostD X.K S (padF ps.length dds G das m) Q (fun c d H => Fly X c d σ H)) : wpAny (model X.prog X.w) A (call (.ref f) us) (EP X pins σ Q) X.xe s := by
  unfold padF at h
  split at h
  · rename_i hl
    obtain ⟨ds, dvs, hb, hd, hD⟩ := hb.ex
    have r1 : Reps X.K S.i S.F (das ++ dds) (vs ++ dvs) := r.append (hD _ _)
    have r2 : Vals (vs ++ dvs) (us ++ ds) := rv.append hd
    have hlv : (vs ++ dvs).length = ps.length := by rw [← r1.len]; exact hl
    have hl2 : (us ++ ds).length = ps.length := by rw [← r2.length]; exact hlv
    have e0 := I.env0
    have e1 : Env0 X.prog X.w X.K X.mg X.base A X.stack s S.H := ⟨hA.trans e0.frames, e0.mod, e0.bs, e0.bsz, e0.funs, e0.frf, e0.hok, e0.bare⟩
    refine wpAny_call (codeAny_mono (F.run A X.stack s S.H ⟨us, []⟩ (us ++ ds) (vs ++ dvs) Q (fun c d H => Fly X c d σ H) hr e1 (hb s us I.kIn hl2) r2 ⟨hlv, S, m, _, rfl, sa, r1, h⟩) fun r s' hq => ?_)
    cases r with
    | error e =>
      obtain ⟨a, B, sI, pins', σ', H', cls, d, e1, I', nb, up, sky, na, os, ag, e2, fl⟩ := XE.of_call I (W := fun c d σ' H => σ' = σ ∧ Fly X c d σ H) (fun cls d H' h => ⟨rfl, h⟩) hq
      exact fl e s' ⟨a, B, sI, pins', σ', H', cls, d, e1, I', nb, up, sky, na, os, ag, rfl, rfl, e2, rfl⟩
    | ok fl =>
      cases fl with
      | ret u => exact I.after hq
      | next => exact False.elim hq
      | brk => exact False.elim hq
      | cont => exact False.elim hq
  · exact h.elim
theorem in1_frames (A : Around) : A.in1.frames = A.frames := rfl
def dFun (G : DFn) (t : DA) : DE := fun e m => (t e m).bind G
variable {k : Nat} {G : DFn} {x mn : Str} {p pos apos : Pos} {e o : Expr} {es : List Expr} {t : DA} {to ta tb : DE}
theorem pd_fun (F : FT X.prog X.w X.K X.mg X.base k x G) (hr : Room k X.A) (ha : PDA X (e :: es) t)
    (hg : Gl X x := by rfl) (hdb : (x == ("__debug__" : Str)) = false := by decide) (he : starEach (e :: es) X.env = (false, eval e X.env) :: starEach es X.env := by exact se_cons _ _ _ rfl) (hpl : (backTo pos (starEach es X.env)).any (·.1) = false := by exact se_any _ _ _ rfl) :
    PDE X (.Call (.Name x p) (e :: es) [] pos) (dFun G t) := by
  obtain ⟨f, fd, ps, dds, G0, hm, hk, hf, hb, rfl⟩ := F.ex
  intro S r m σ Q sa re q pins s I
  refine wpAny_Call_Name_kw (ld_glob I hg hm ?_ hdb)
  refine PySem.W.callWith_K (h₀ := X.base) I.ok.mod.kin hk (thn (ha.run sa re q I pos) ?_) he hpl
  rintro us s1 ⟨xs, ds, m1, T, st, sa1, rds, rv, I1, q1⟩
  exact ⟨I1.kIn, run_fnA hf hr hb rfl I1 sa1 rds rv q1⟩
theorem pd_fun0 (F : FT X.prog X.w X.K X.mg X.base k x G) (hr : Room k X.A)
    (hg : Gl X x := by rfl) (hdb : (x == ("__debug__" : Str)) = false := by decide) : PDE X (.Call (.Name x p) [] [] pos) (dFun G dNil) := by
  obtain ⟨f, fd, ps, dds, G0, hm, hk, hf, hb, rfl⟩ := F.ex
  intro S r m σ Q sa re q pins s I
  refine wpAny_Call_Name_kw (ld_glob I hg hm ?_ hdb)
  exact PySem.W.callWith_K0 I.kIn hk (run_fnA (us := []) hf hr hb rfl I sa .nil .nil q)

/-! ### methods -/
def methAt (rows : List (Kl × DFn)) (C : Addr) (ns : List Str) : Option DFn := match rows with
  | [] => none
  | (c, G) :: rest => if C = c.a ∧ ns = c.ns then some G else methAt rest C ns
theorem methAt_ok {P : Kl → DFn → Prop} : ∀ {rows : List (Kl × DFn)} {C : Addr} {ns : List Str} {G : DFn}, (∀ r ∈ rows, P r.1 r.2) → methAt rows C ns = some G → ∃ c, P c G ∧ C = c.a ∧ ns = c.ns
  | [], _, _, _, _, h => by cases h
  | (c, i) :: rest, C, ns, d, hr, h => by
    unfold methAt at h
    split at h
    · rename_i e
      cases h
      exact ⟨c, hr _ List.mem_cons_self, e.1, e.2⟩
    · exact methAt_ok (fun r hm => hr r (List.mem_cons_of_mem _ hm)) h
/-- o.m(..), for each class its method -/
def dMeth (rows : List (Kl × DFn)) (to : DE) (t : DA) : DE := fun e m => (to e m).bind fun o m1 => match insOf m1 o with
  | some (C, ns, _) => match methAt rows C ns with
    | some G => (t e m1).bind fun ds m2 => G (o :: ds) m2
    | none => .stuck
  | none => .stuck
structure MethOk (P : Program) (w : World) (K : PySem.W.Frag) (mg : Str → Option Value) (base : Heap) (k : Nat) (mn : Str) (c : Kl) (G : DFn) : Prop where
  cl : Cls K c.a
  mt : MT P w K mg base k mn c.a G
  no : mn ∉ c.ns
theorem pd_meth {rows : List (Kl × DFn)} {pl : Sem Bool} (he : PDE X o to) (hrows : ∀ r ∈ rows, MethOk X.prog X.w X.K X.mg X.base k mn r.1 r.2) (hr : Room k X.A) (ha : PDA X (e :: es) t)
    (hst : starEach (e :: es) X.env = (false, eval e X.env) :: starEach es X.env := by exact se_cons _ _ _ rfl) (hpl : (backTo pos (starEach es X.env)).any (·.1) = false := by exact se_any _ _ _ rfl)
    (ht : eval (.Call (.Attribute o mn apos) (e :: es) [] pos) X.env = (do
      let ov ← eval o X.env
      standAt apos.atName
      let (f, first) ← holding [ov] (getMethod ov mn pl)
      callWith pos f first (backTo pos (starEach (e :: es) X.env)) (backToKw pos (keywordEach [] X.env))) := by rfl) :
    PDE X (.Call (.Attribute o mn apos) (e :: es) [] pos) (dMeth rows to t) := by
  intro S r m σ Q sa re q pins s I
  refine PySem.W.methodCall_KW (pl := pl) (thn (he.run sa re q I) ?_) ht
  rintro u s1 ⟨x, d, m1, T, st, sa1, rd, rx, I1, q1⟩
  split at q1
  · rename_i C ns ds ei
    split at q1
    · rename_i G eG
      obtain ⟨c, ok, rfl, rfl⟩ := methAt_ok (P := MethOk X.prog X.w X.K X.mg X.base k mn) hrows eG
      obtain ⟨a, dx, vs, rfl, h1, h2, h3⟩ := insOf_ok sa1 rd ei
      obtain ⟨f, fd, ps, dds, G0, hf1, hf2, hk, hf, hb, rfl⟩ := ok.mt.ex
      obtain rfl : u = Value.ref a := rx
      refine getmeth_ok I1 h1 ok.cl ⟨hf1, hf2, hk⟩ (lookup_not (by rw [h2]; exact ok.no)) ?_
      refine PySem.W.callWith_K (first := [.ref a]) (h₀ := X.base) I.ok.mod.kin hk (thn (ha.run sa1 (re.stp st) q1 I1 pos) ?_) hst hpl
      rintro us s2 ⟨xs, das, m2, U, st2, sa2, rds, rv, I2, q2⟩
      exact ⟨I2.kIn, run_fnA (us := .ref a :: us) hf hr hb rfl I2 sa2 (.cons (rd.stp st2) rds) (.cons rfl rv) q2⟩
    · exact (show False from q1).elim
  · exact (show False from q1).elim
theorem pd_meth0 {rows : List (Kl × DFn)} {pl : Sem Bool} (he : PDE X o to) (hrows : ∀ r ∈ rows, MethOk X.prog X.w X.K X.mg X.base k mn r.1 r.2) (hr : Room k X.A)
    (ht : eval (.Call (.Attribute o mn apos) [] [] pos) X.env = (do
      let ov ← eval o X.env
      standAt apos.atName
      let (f, first) ← holding [ov] (getMethod ov mn pl)
      callWith pos f first (backTo pos (starEach [] X.env)) (backToKw pos (keywordEach [] X.env))) := by rfl) :
    PDE X (.Call (.Attribute o mn apos) [] [] pos) (dMeth rows to dNil) := by
  intro S r m σ Q sa re q pins s I
  refine PySem.W.methodCall_KW (pl := pl) (thn (he.run sa re q I) ?_) ht
  rintro u s1 ⟨x, d, m1, T, st, sa1, rd, rx, I1, q1⟩
  split at q1
  · rename_i C ns ds ei
    split at q1
    · rename_i G eG
      obtain ⟨c, ok, rfl, rfl⟩ := methAt_ok (P := MethOk X.prog X.w X.K X.mg X.base k mn) hrows eG
      obtain ⟨a, dx, vs, rfl, h1, h2, h3⟩ := insOf_ok sa1 rd ei
      obtain ⟨f, fd, ps, dds, G0, hf1, hf2, hk, hf, hb, rfl⟩ := ok.mt.ex
      obtain rfl : u = Value.ref a := rx
      refine getmeth_ok I1 h1 ok.cl ⟨hf1, hf2, hk⟩ (lookup_not (by rw [h2]; exact ok.no)) ?_
      exact PySem.W.callWith_K0 (first := [.ref a]) I1.kIn hk (run_fnA (us := [.ref a]) hf hr hb rfl I1 sa1 (.cons rd .nil) (.cons rfl .nil) q1)
    · exact (show False from q1).elim
  · exact (show False from q1).elim

/-! ### properties -/
structure PropOk (P : Program) (w : World) (K : PySem.W.Frag) (mg : Str → Option Value) (base : Heap) (k : Nat) (f : Str) (c : Kl) (G : DFn) : Prop where
  cl : Cls K c.a
  ex : ∃ (p g : Addr) (fd : FuncData) (ps : List Str) (G0 : DFn), PropOf K c.a f p g ∧ FnD P w K mg base k g fd ps G0 ∧ Bd K fd ps [] ∧ G = padF ps.length [] G0
def noExc (r : Res D) : Res D := match r with
  | .ok d m => .ok d m
  | _ => .stuck
def dProp (rows : List (Kl × DFn)) (to : DE) : DE := fun e m => (to e m).bind fun o m1 => match insOf m1 o with
  | some (C, ns, _) => match methAt rows C ns with
    | some G => noExc (G [o] m1)
    | none => .stuck
  | none => .stuck
theorem pd_prop {f : Str} {rows : List (Kl × DFn)} (he : PDE X o to) (hrows : ∀ r ∈ rows, PropOk X.prog X.w X.K X.mg X.base k f r.1 r.2) (hr : Room (k + 1) X.A) (hab : attributeBase o f X.env (eval o X.env) = eval o X.env := by rfl) :
    PDE X (.Attribute o f pos) (dProp rows to) := by
  intro S r m σ Q sa re q pins s I
  refine attr_of hab (thn (he.run sa re q I) ?_)
  rintro u s1 ⟨x, d, m1, T, st, sa1, rd, rx, I1, q1⟩
  split at q1
  · rename_i C ns ds ei
    split at q1
    · rename_i G eG
      obtain ⟨c, ok, rfl, rfl⟩ := methAt_ok (P := PropOk X.prog X.w X.K X.mg X.base k f) hrows eG
      obtain ⟨a, dx, vs, rfl, h1, h2, h3⟩ := insOf_ok sa1 rd ei
      obtain ⟨pp, g, fd, ps, G0, hp, hf, hb, rfl⟩ := ok.ex
      obtain rfl : u = Value.ref a := rx
      unfold padF at q1
      split at q1
      · rename_i hl
        have hl' : [d].length = ps.length := by simpa using hl
        cases hG : G0 ([d] ++ []) m1 with
        | stuck => rw [hG] at q1; exact (show False from q1).elim
        | exc C fs m2 => rw [hG] at q1; exact (show False from q1).elim
        | ok dv m2 =>
          rw [hG] at q1
          obtain ⟨ds', dvs, hb1, hd1, hD⟩ := hb.ex
          have hnil : dvs = [] := by
            have := hD [] (fun _ => none)
            cases this; rfl
          subst hnil
          cases hd1
          refine getprop_ok (sp := spD X.K ps.length G0) (E := E0) I1 h1 ok.cl hp hf hr hb1 .nil passL ⟨by simpa using hl', T, m1, [d], rfl, sa1, .cons rd .nil, ?_⟩
          rw [show ([d] : List D) = [d] ++ [] from rfl, hG]
          exact q1
      · exact (show False from q1).elim
    · exact (show False from q1).elim
  · exact (show False from q1).elim

/-! ### operators of own classes -/
theorem Inv.inst {pins : List (Addr × Obj)} {σ : L2.St} {H : Hp} {s : Shared} {a C dx : Addr} {fs : List (Str × V)} (I : Inv X pins σ H s) (e : H a = some (.ins C dx fs)) : ∃ od, PySem.W.InstAt s.heap a (PySem.W.instObj C dx) C (some od) := by
  obtain ⟨mA, O, _, _, _, _⟩ := ins_get I.hok e
  obtain ⟨od, J, _⟩ := O.look
  exact ⟨od, J⟩
theorem cmpBack_of {Q : Value → Shared → Prop} {pins : List (Addr × Obj)} {σ : L2.St} {Q' : VK} {v : Value} {s : Shared} (h : EP X pins σ Q' v s) (k : EP X pins σ Q' v s → Q v s) : PySem.W.CmpBack Q v s := by
  obtain ⟨y, H, I, r, q⟩ := id h
  cases y with
  | non => cases r; exact k h
  | bl b => cases r; exact k h
  | int i => obtain ⟨t, rfl⟩ := r; exact k h
  | str i => obtain ⟨t, rfl⟩ := r; exact k h
  | byt i => obtain ⟨t, rfl⟩ := r; exact k h
  | flt i => obtain ⟨t, rfl⟩ := r; exact k h
  | ref a => cases r; exact k h
  | ty n => cases r; exact k h
/-- a op b, both of the class at C, by its method -/
def dOwn2 (C : Addr) (G : DFn) : D2 := fun x y m => match insOf m x, insOf m y with
  | some (C1, _, _), some (C2, _, _) => if C1 = C ∧ C2 = C then G [x, y] m else .stuck
  | _, _ => .stuck
theorem od_own {op : Operator} {C : Addr} {G : DFn} (hm : MT X.prog X.w X.K X.mg X.base k (PySem.dunder op.info.2) C G) (hc : PySem.W.selfFirst X.K C = true) (hr : Room k X.A) : OD X (binaryOp op) (dOwn2 C G) := by
  intro pins s σ S m x y vx vy u w Q sa rx ry I hu hw p
  unfold dOwn2 at p
  split at p
  · rename_i C1 n1 d1 C2 n2 d2 e1 e2
    split at p
    · rename_i hC
      obtain ⟨rfl, rfl⟩ := hC
      obtain ⟨a, dx, vs, rfl, h1, _, _⟩ := insOf_ok sa rx e1
      obtain ⟨b, dy, ws, rfl, h2, _, _⟩ := insOf_ok sa ry e2
      obtain rfl : u = Value.ref a := hu
      obtain rfl : w = Value.ref b := hw
      obtain ⟨f, fd, ps, dds, G0, hf1, hf2, hk, hf, hb, rfl⟩ := hm.ex
      obtain ⟨od1, J1⟩ := Inv.inst I h1
      obtain ⟨od2, J2⟩ := Inv.inst I h2
      obtain ⟨mm, F⟩ := I.fr
      refine PySem.W.binop_K F I.ok.mod.kin J1 J2.type hc hf1 hf2 (thn (run_fnA (us := [.ref a, .ref b]) hf hr hb rfl I sa (.cons rx (.cons ry .nil)) (.cons rfl (.cons rfl .nil)) p) fun v s1 h => cmpBack_of h fun h => h)
    · exact p.elim
  · exact p.elim
/-- -a of the class at C -/
def dNeg (C : Addr) (G : DFn) (t : DE) : DE := fun e m => (t e m).bind fun x m1 => match x with
  | .int i => .ok (.int (-i)) m1
  | _ => match insOf m1 x with
    | some (C1, _, _) => if C1 = C then G [x] m1 else .stuck
    | none => .stuck
theorem pd_neg {C : Addr} {G : DFn} (ha : PDE X o ta) (hm : MT X.prog X.w X.K X.mg X.base k "__neg__" C G) (hr : Room k X.A) : PDE X (.UnaryOp .USub o pos) (dNeg C G ta) := by
  intro S r m σ Q sa re q pins s I
  refine UnaryOp_ (thn (ha.run sa re q I) ?_)
  rintro u s1 ⟨x, d, m1, T, st, sa1, rd, rx, I1, q1⟩
  split at q1
  · cases rd
    exact un_neg pins s1 σ T.H _ u Q I1 rx ⟨_, rfl, Post.ok q1 (Stp.refl T) sa1 (.int _)⟩
  · split at q1
    · rename_i C1 n1 d1 e1
      split at q1
      · rename_i hC
        subst hC
        obtain ⟨a, dx, vs, rfl, h1, _, _⟩ := insOf_ok sa1 rd e1
        obtain rfl : u = Value.ref a := rx
        obtain ⟨f, fd, ps, dds, G0, hf1, hf2, hk, hf, hb, rfl⟩ := hm.ex
        obtain ⟨od1, J1⟩ := Inv.inst I1 h1
        obtain ⟨mm, F⟩ := I1.fr
        exact PySem.W.ksp_neg F I1.ok.mod.kin J1 hf1 hf2 (run_fnA (us := [.ref a]) hf hr hb rfl I1 sa1 (.cons rd .nil) (.cons rfl .nil) q1)
      · exact (show False from q1).elim
    · exact (show False from q1).elim
/-- -a of an int -/
def dNegI (t : DE) : DE := fun e m => (t e m).bind fun x m1 => match x with
  | .int i => .ok (.int (-i)) m1
  | _ => .stuck
theorem pd_negI (ha : PDE X o ta) : PDE X (.UnaryOp .USub o pos) (dNegI ta) := by
  refine pd_of (pe_un un_neg (mxE X o)) fun S r m σ Q sa re p => ?_
  refine ha S r m σ _ sa re (Post.bindI p fun d m1 v T st sa1 rd q => ?_)
  cases rd with
  | int i => exact ⟨i, rfl, Post.ok q (Stp.refl T) sa1 (.int _)⟩
  | _ => exact q.elim
end
end DL

namespace DL
open PySem PySem.Spec PyProof.Rows L2
variable [LamTab]
section
variable {X : Cx}
/-! ### numbers, texts, lists: operators -/
def gI2 (C : Int → Int → Bool) (k : Int → Int → D) : D2 := fun x y m => match x with
  | .int i => match y with
    | .int j => if C i j then .ok (k i j) m else .stuck
    | _ => .stuck
  | _ => .stuck
theorem od_i2 {f : Value → Value → Sem Value} {C : Int → Int → Bool} {C' : Int → Int → Prop} {k : Int → Int → D} {k' : Int → Int → V} (ho : OpR X f (rI C' k')) (hC : ∀ i j, C i j = true → C' i j) (hk : ∀ K i F a b, Rep K i F (k a b) (k' a b)) : OD X f (gI2 C k) := by
  refine od_of ho fun S m x y vx vy Q W sa rx ry p => ?_
  unfold gI2 at p
  cases rx with
  | int i =>
    cases ry with
    | int j =>
      dsimp only at p
      split at p
      · rename_i hc
        exact ⟨i, j, rfl, rfl, hC i j hc, Post.ok p (Stp.refl S) sa (hk _ _ _ i j)⟩
      · exact p.elim
    | _ => exact p.elim
  | _ => exact p.elim
def gI0 (k : Int → Int → D) : D2 := fun x y m => match x with
  | .int i => match y with
    | .int j => .ok (k i j) m
    | _ => .stuck
  | _ => .stuck
theorem od_i0 {f : Value → Value → Sem Value} {k : Int → Int → D} {k' : Int → Int → V} (ho : OpR X f (rI0 k')) (hk : ∀ K i F a b, Rep K i F (k a b) (k' a b)) : OD X f (gI0 k) := by
  refine od_of ho fun S m x y vx vy Q W sa rx ry p => ?_
  unfold gI0 at p
  cases rx with
  | int i =>
    cases ry with
    | int j => exact ⟨i, j, rfl, rfl, Post.ok p (Stp.refl S) sa (hk _ _ _ i j)⟩
    | _ => exact p.elim
  | _ => exact p.elim
abbrev gAdd : D2 := gI0 fun i j => .int (i + j)
abbrev gSub : D2 := gI0 fun i j => .int (i - j)
def mulOk (i j : Int) : Bool := decide (i.natAbs.log2 + j.natAbs.log2 < 1000000)
def divOk (_ j : Int) : Bool := decide (j ≠ 0 ∧ j.natAbs.log2 < 9000)
abbrev gMul : D2 := gI2 mulOk fun i j => .int (i * j)
abbrev gDiv : D2 := gI2 divOk fun i j => .int (i.fdiv j)
abbrev gMod : D2 := gI2 (fun _ j => decide (0 < j)) fun i j => .int (i % j)
def powOk (i j : Int) : Bool := decide (0 ≤ j ∧ j ≤ 1000000 ∧ i.natAbs < 2 ^ 64)
abbrev gPow : D2 := gI2 powOk fun i j => .int (i ^ j.toNat)
theorem od_add : OD X (binaryOp .Add) gAdd := od_i0 op_add fun _ _ _ _ _ => .int _
theorem od_sub : OD X (binaryOp .Sub) gSub := od_i0 op_sub fun _ _ _ _ _ => .int _
theorem od_mul : OD X (binaryOp .Mult) gMul := od_i2 op_mulW (fun i j h => (of_decide_eq_true h : i.natAbs.log2 + j.natAbs.log2 < 1000000)) fun _ _ _ _ _ => .int _
theorem op_fdivX : OpR X (binaryOp .FloorDiv) (rI (fun _ j => j ≠ 0 ∧ j.natAbs.log2 < 9000) fun i j => .int (i.fdiv j)) := opI fun i j _ _ _ _ _ hc q =>
  floordiv_int hc.1 q (.inl (PyProof.noPylong_of_log2 hc.2))
theorem od_div : OD X (binaryOp .FloorDiv) gDiv := od_i2 op_fdivX (fun _ _ h => of_decide_eq_true h) fun _ _ _ _ _ => .int _
theorem od_mod : OD X (binaryOp .Mod) gMod := od_i2 op_mod (fun _ _ h => of_decide_eq_true h) fun _ _ _ _ _ => .int _
theorem od_pow : OD X (binaryOp .Pow) gPow := od_i2 op_pow (fun i j h => (of_decide_eq_true h : 0 ≤ j ∧ j ≤ 1000000 ∧ i.natAbs < 2 ^ 64)) fun _ _ _ _ _ => .int _
abbrev gLt : D2 := gI0 fun i j => .bl (decide (i < j))
abbrev gLe : D2 := gI0 fun i j => .bl (decide (i ≤ j))
abbrev gGt : D2 := gI0 fun i j => .bl (decide (j < i))
abbrev gGe : D2 := gI0 fun i j => .bl (decide (j ≤ i))
theorem od_lt : OD X (compareOp .Lt) gLt := od_i0 op_lt fun _ _ _ _ _ => .bl _
theorem od_le : OD X (compareOp .LtE) gLe := od_i0 op_le fun _ _ _ _ _ => .bl _
theorem od_gt : OD X (compareOp .Gt) gGt := od_i0 op_gt fun _ _ _ _ _ => .bl _
theorem od_ge : OD X (compareOp .GtE) gGe := od_i0 op_ge fun _ _ _ _ _ => .bl _
/-- texts joined; lists joined (a new one that is never changed) -/
def gAddS : D2 := fun x y m => match x with
  | .str a => match y with
    | .str b => if a.length + b.length ≤ sizeLine then .ok (.str (a ++ b)) m else .stuck
    | _ => .stuck
  | _ => .stuck
theorem od_addS : OD X (binaryOp .Add) gAddS := by
  refine od_of op_add_str fun S m x y vx vy Q W sa rx ry p => ?_
  unfold gAddS at p
  cases rx with
  | str i =>
    cases ry with
    | str j =>
      dsimp only at p
      split at p
      · rename_i hc
        exact ⟨i, j, rfl, rfl, hc, Post.ok p (Stp.refl S) sa (.str _)⟩
      · exact p.elim
    | _ => exact p.elim
  | _ => exact p.elim
/-! ### is None -/
def gIsN : D2 := fun x y m => match y with
  | .non => match x with
    | .non => .ok (.bl true) m
    | .val _ => .stuck
    | _ => .ok (.bl false) m
  | _ => .stuck
def gNotN : D2 := fun x y m => match y with
  | .non => match x with
    | .non => .ok (.bl false) m
    | .val _ => .stuck
    | _ => .ok (.bl true) m
  | _ => .stuck
theorem od_isN : OD X (compareOp .Is) gIsN := by
  refine od_of op_isN fun S m x y vx vy Q W sa rx ry p => ?_
  unfold gIsN at p
  cases ry with
  | non =>
    refine ⟨rfl, ?_⟩
    cases rx with
    | val v => exact p.elim
    | non => exact Post.ok p (Stp.refl S) sa (.bl true)
    | _ => exact Post.ok p (Stp.refl S) sa (.bl false)
  | _ => exact p.elim
theorem od_notN : OD X (compareOp .IsNot) gNotN := by
  refine od_of op_notN fun S m x y vx vy Q W sa rx ry p => ?_
  unfold gNotN at p
  cases ry with
  | non =>
    refine ⟨rfl, ?_⟩
    cases rx with
    | val v => exact p.elim
    | non => exact Post.ok p (Stp.refl S) sa (.bl false)
    | _ => exact Post.ok p (Stp.refl S) sa (.bl true)
  | _ => exact p.elim
/-! ### == -/
mutual
def toPy : D → Option PyData
  | .non => some .none
  | .bl b => some (.bool b)
  | .int i => some (.int i)
  | .str x => some (.str x)
  | .lst ds => (toPys ds).map .list
  | .tup ds => (toPys ds).map .tuple
  | _ => none
def toPys : List D → Option (List PyData)
  | [] => some []
  | d :: ds => match toPy d with
    | some p => match toPys ds with
      | some ps => some (p :: ps)
      | none => none
    | none => none
end
mutual
theorem toPy_ok {K : PySem.W.Frag} {S : Wd} {m : Mu} (sa : Sta K S m) : ∀ (d : D) {v : V} {p : PyData}, Rep K S.i S.F d v → toPy d = some p → Dp K S.H v p
  | .non, _, _, r, h => by cases r; cases h; exact .non
  | .bl b, _, _, r, h => by cases r; cases h; exact .bl _
  | .int b, _, _, r, h => by cases r; cases h; exact .int _
  | .str b, _, _, r, h => by cases r; cases h; exact .str _
  | .lst ds, _, _, r, h => by
    cases r with
    | lst h1 h2 =>
      unfold toPy at h
      cases q : toPys ds with
      | none => rw [q] at h; cases h
      | some ps => rw [q] at h; cases h; exact .lst (SqL.ext' h1 sa.sub) (toPys_ok sa ds h2 q)
  | .tup ds, _, _, r, h => by
    cases r with
    | tup h1 h2 =>
      unfold toPy at h
      cases q : toPys ds with
      | none => rw [q] at h; cases h
      | some ps => rw [q] at h; cases h; exact .tup (SqT.ext' h1 sa.sub) (toPys_ok sa ds h2 q)
  | .obj _ _, _, _, r, h => by unfold toPy at h; cases h
  | .loc _, _, _, r, h => by unfold toPy at h; cases h
  | .val _, _, _, r, h => by unfold toPy at h; cases h
theorem toPys_ok {K : PySem.W.Frag} {S : Wd} {m : Mu} (sa : Sta K S m) : ∀ (ds : List D) {vs : List V} {ps : List PyData}, Reps K S.i S.F ds vs → toPys ds = some ps → DpAll K S.H vs ps
  | [], _, _, r, h => by cases r; cases h; exact .nil
  | d :: ds, _, _, r, h => by
    cases r with
    | cons h1 h2 =>
      unfold toPys at h
      cases q : toPy d with
      | none => rw [q] at h; cases h
      | some p =>
        cases q2 : toPys ds with
        | none => rw [q, q2] at h; cases h
        | some ps => rw [q, q2] at h; cases h; exact .cons (toPy_ok sa d h1 q) (toPys_ok sa ds h2 q2)
end
/-- a list of the store as data -/
def thaw1 (m : Mu) (d : D) : D := match seqL m d with
  | some ds => .lst ds
  | none => d
def pyOf (m : Mu) (d : D) : Option PyData := toPy (thaw1 m d)
theorem pyOf_ok {K : PySem.W.Frag} {S : Wd} {m : Mu} {d : D} {v : V} {p : PyData} (sa : Sta K S m) (r : Rep K S.i S.F d v) (h : pyOf m d = some p) : Dp K S.H v p := by
  unfold pyOf thaw1 at h
  cases q : seqL m d with
  | none => rw [q] at h; exact toPy_ok sa d r h
  | some ds =>
    rw [q] at h
    obtain ⟨a, xs, rfl, h1, h2⟩ := seqL_ok sa r q
    dsimp only at h
    unfold toPy at h
    cases q2 : toPys ds with
    | none => rw [q2] at h; cases h
    | some ps => rw [q2] at h; cases h; exact .lst h1 (toPys_ok sa ds h2 q2)
def gEqD (neg : Bool) : D2 := fun x y m => match pyOf m x, pyOf m y with
  | some d, some e => if SeqAt.shaped d && SeqAt.shaped e then .ok (.bl (neg ^^ PyData.eqv d e)) m else .stuck
  | _, _ => .stuck
theorem od_eqD (hu : X.A.units + 64 < cLine) : OD X (compareOp .Eq) (gEqD false) := by
  refine od_of (op_eqD hu) fun S m x y vx vy Q W sa rx ry p => ?_
  unfold gEqD at p
  split at p
  · rename_i d e e1 e2
    split at p
    · rename_i hs
      obtain ⟨h1, h2⟩ := Bool.and_eq_true_iff.mp hs
      refine ⟨d, e, pyOf_ok sa rx e1, pyOf_ok sa ry e2, h1, h2, ?_⟩
      rw [Bool.false_xor] at p
      exact Post.ok p (Stp.refl S) sa (.bl _)
    · exact p.elim
  · exact p.elim
theorem od_neD (hu : X.A.units + 64 < cLine) : OD X (compareOp .NotEq) (gEqD true) := by
  refine od_of (op_neD hu) fun S m x y vx vy Q W sa rx ry p => ?_
  unfold gEqD at p
  split at p
  · rename_i d e e1 e2
    split at p
    · rename_i hs
      obtain ⟨h1, h2⟩ := Bool.and_eq_true_iff.mp hs
      refine ⟨d, e, pyOf_ok sa rx e1, pyOf_ok sa ry e2, h1, h2, ?_⟩
      rw [Bool.true_xor] at p
      exact Post.ok p (Stp.refl S) sa (.bl _)
    · exact p.elim
  · exact p.elim
/-- scalars of one kind, and None beside them -/
def scEq : D → D → Option Bool
  | .non, .non => some true
  | .int i, .int j => some (decide (i = j))
  | .bl i, .bl j => some (i == j)
  | .str i, .str j => some (decide (i = j))
  | .non, .int _ => some false
  | .int _, .non => some false
  | .non, .bl _ => some false
  | .bl _, .non => some false
  | .non, .str _ => some false
  | .str _, .non => some false
  | .int _, .str _ => some false
  | .str _, .int _ => some false
  | .bl _, .str _ => some false
  | .str _, .bl _ => some false
  | _, _ => none
theorem scEq_ok {K : PySem.W.Frag} {i : List Addr} {F : Hp} {x y : D} {vx vy : V} {b : Bool} (rx : Rep K i F x vx) (ry : Rep K i F y vy) (h : scEq x y = some b) : scal vx vy = true ∧ decide (vx = vy) = b := by
  cases rx <;> cases ry <;> first
    | (cases h; exact ⟨rfl, rfl⟩)
    | (cases h; refine ⟨rfl, ?_⟩; first | exact dec_bl | simp)
    | (simp [scEq] at h)
def gEqS (neg : Bool) : D2 := fun x y m => match scEq x y with
  | some b => .ok (.bl (neg ^^ b)) m
  | none => .stuck
theorem od_eqS : OD X (compareOp .Eq) (gEqS false) := by
  refine od_of op_eq fun S m x y vx vy Q W sa rx ry p => ?_
  unfold gEqS at p
  split at p
  · rename_i b e
    obtain ⟨h1, h2⟩ := scEq_ok rx ry e
    refine ⟨h1, ?_⟩
    rw [h2]
    rw [Bool.false_xor] at p
    exact Post.ok p (Stp.refl S) sa (.bl _)
  · exact p.elim
theorem od_neS : OD X (compareOp .NotEq) (gEqS true) := by
  refine od_of op_ne fun S m x y vx vy Q W sa rx ry p => ?_
  unfold gEqS at p
  split at p
  · rename_i b e
    obtain ⟨h1, h2⟩ := scEq_ok rx ry e
    refine ⟨h1, ?_⟩
    rw [h2]
    rw [Bool.true_xor] at p
    exact Post.ok p (Stp.refl S) sa (.bl _)
  · exact p.elim
def gEq : D2 := orD (gEqS false) (gEqD false)
def gNe : D2 := orD (gEqS true) (gEqD true)
theorem od_eq (hu : X.A.units + 64 < cLine) : OD X (compareOp .Eq) gEq := od_or od_eqS (od_eqD hu)
theorem od_ne (hu : X.A.units + 64 < cLine) : OD X (compareOp .NotEq) gNe := od_or od_neS (od_neD hu)
/-! ### in -/
def toV : D → Option V
  | .non => some .non
  | .bl b => some (.bl b)
  | .int b => some (.int b)
  | .str b => some (.str b)
  | _ => none
def toVs : List D → Option (List V)
  | [] => some []
  | d :: ds => match toV d with
    | some v => match toVs ds with
      | some vs => some (v :: vs)
      | none => none
    | none => none
theorem toV_ok {K : PySem.W.Frag} {i : List Addr} {F : Hp} {x : D} {vx v : V} (rx : Rep K i F x vx) (h : toV x = some v) : vx = v ∧ flatV v = true := by
  cases rx <;> first | (cases h; exact ⟨rfl, rfl⟩) | (simp [toV] at h)
theorem toVs_ok {K : PySem.W.Frag} {i : List Addr} {F : Hp} : ∀ {xs : List D} {vx vs : List V}, Reps K i F xs vx → toVs xs = some vs → vx = vs ∧ vs.all flatV = true
  | [], _, _, r, h => by cases r; cases h; exact ⟨rfl, rfl⟩
  | d :: ds, _, _, r, h => by
    cases r with
    | cons h1 h2 =>
      unfold toVs at h
      cases q : toV d with
      | none => rw [q] at h; cases h
      | some p =>
        cases q2 : toVs ds with
        | none => rw [q, q2] at h; cases h
        | some ps =>
          rw [q, q2] at h; cases h
          obtain ⟨e1, e2⟩ := toV_ok h1 q
          obtain ⟨e3, e4⟩ := toVs_ok h2 q2
          subst e1 e3
          exact ⟨rfl, by rw [List.all_cons, e2, e4]; rfl⟩
def seqA (m : Mu) (d : D) : Option (List D) := match seqL m d with
  | some ds => some ds
  | none => seqT d
theorem seqA_ok {K : PySem.W.Frag} {S : Wd} {m : Mu} {d : D} {v : V} {ds : List D} (sa : Sta K S m) (r : Rep K S.i S.F d v) (h : seqA m d = some ds) : ∃ a xs, v = .ref a ∧ (SqL K S.H a xs ∨ SqT K S.H a xs) ∧ Reps K S.i S.F ds xs := by
  unfold seqA at h
  split at h
  · rename_i e
    cases h
    obtain ⟨a, xs, h1, h2, h3⟩ := seqL_ok sa r e
    exact ⟨a, xs, h1, .inl h2, h3⟩
  · obtain ⟨a, xs, h1, h2, h3⟩ := seqT_ok sa r h
    exact ⟨a, xs, h1, .inr h2, h3⟩
/-- x in a list or tuple of scalars -/
def gInQ (neg : Bool) : D2 := fun x y m => match toV x, (seqA m y).bind toVs with
  | some v, some vs => .ok (.bl (neg ^^ inV v vs)) m
  | _, _ => .stuck
theorem gInQ_ok {neg : Bool} {K : PySem.W.Frag} {S : Wd} {m : Mu} {x y : D} {vx vy : V} {Q : VK} {W : XK} (sa : Sta K S m) (rx : Rep K S.i S.F x vx) (ry : Rep K S.i S.F y vy) (p : PostD K S (gInQ neg x y m) Q W) : rIn K neg vx vy S.H Q := by
  unfold gInQ at p
  split at p
  · rename_i v vs e1 e2
    obtain ⟨h1, h2⟩ := toV_ok rx e1
    subst h1
    cases q : seqA m y with
    | none => rw [q] at e2; cases e2
    | some ds =>
      rw [q] at e2
      obtain ⟨a, xs, h3, h4, h5⟩ := seqA_ok sa ry q
      obtain ⟨h6, h7⟩ := toVs_ok h5 e2
      subst h6
      refine ⟨a, xs, h3, h4, h2, h7, ?_⟩
      cases neg with
      | false => rw [Bool.false_xor] at p; exact Post.ok p (Stp.refl S) sa (.bl _)
      | true => rw [Bool.true_xor] at p; exact Post.ok p (Stp.refl S) sa (.bl _)
  · exact p.elim
theorem od_inQ : OD X (compareOp .In) (gInQ false) := od_of op_in_seq fun S m x y vx vy Q W sa rx ry p => gInQ_ok sa rx ry p
theorem od_notInQ : OD X (compareOp .NotIn) (gInQ true) := od_of op_notIn_seq fun S m x y vx vy Q W sa rx ry p => gInQ_ok sa rx ry p
/-- a text in a text -/
def occurs (i j : Str) : Bool := !(Builtin.Str.occurrences j i 0 j.length 1).isEmpty
def gInS (neg : Bool) : D2 := fun x y m => match x with
  | .str a => match y with
    | .str b => .ok (.bl (neg ^^ occurs a b)) m
    | _ => .stuck
  | _ => .stuck
theorem od_inS : OD X (compareOp .In) (gInS false) := by
  refine od_of op_in_str fun S m x y vx vy Q W sa rx ry p => ?_
  unfold gInS at p
  cases rx with
  | str i =>
    cases ry with
    | str j =>
      dsimp only at p
      rw [Bool.false_xor] at p
      exact ⟨i, j, rfl, rfl, Post.ok p (Stp.refl S) sa (.bl _)⟩
    | _ => exact p.elim
  | _ => exact p.elim
theorem od_notInS : OD X (compareOp .NotIn) (gInS true) := by
  refine od_of op_notin_str fun S m x y vx vy Q W sa rx ry p => ?_
  unfold gInS at p
  cases rx with
  | str i =>
    cases ry with
    | str j =>
      dsimp only at p
      rw [Bool.true_xor] at p
      exact ⟨i, j, rfl, rfl, Post.ok p (Stp.refl S) sa (.bl _)⟩
    | _ => exact p.elim
  | _ => exact p.elim
abbrev gIn : D2 := orD (gInS false) (gInQ false)
abbrev gNotIn : D2 := orD (gInS true) (gInQ true)
theorem od_in : OD X (compareOp .In) gIn := od_or od_inS od_inQ
theorem od_notIn : OD X (compareOp .NotIn) gNotIn := od_or od_notInS od_notInQ

/-! ### calls of built-ins by values -/
def OC (X : Cx) (f : Value) (g : DFn) : Prop :=
  ∀ (pins : List (Addr × Obj)) (s : Shared) (σ : L2.St) (S : Wd) (m : Mu) (ds : List D) (xs : List V) (us : List Value) (Q : VK), Sta X.K S m → Reps X.K S.i S.F ds xs → Vals xs us → Inv X pins σ S.H s →
    PostD X.K S (g ds m) Q (fun c d H => Fly X c d σ H) → wpAny (model X.prog X.w) X.A (call f us) (EP X pins σ Q) X.xe s
theorem oc_of {f : Value} {g : DFn} {r : List V → Hp → VK → Prop} (ho : CallR X f r) (k : ∀ (S : Wd) (m : Mu) (ds : List D) (xs : List V) (Q : VK) (W : XK), Sta X.K S m → Reps X.K S.i S.F ds xs → PostD X.K S (g ds m) Q W → r xs S.H Q) : OC X f g :=
  fun pins s σ S m ds xs us Q sa rs rv I p => ho pins s σ S.H xs us Q I rv (k S m ds xs Q _ sa rs p)
def orF (f g : DFn) : DFn := fun ds m => match f ds m with
  | .stuck => g ds m
  | r => r
theorem oc_or {f : Value} {g h : DFn} (a : OC X f g) (b : OC X f h) : OC X f (orF g h) := by
  intro pins s σ S m ds xs us Q sa rs rv I p
  unfold orF at p
  split at p
  · exact b pins s σ S m ds xs us Q sa rs rv I p
  · exact a pins s σ S m ds xs us Q sa rs rv I p
variable {x : Str} {p pos : Pos} {e : Expr} {es : List Expr} {t : DA} {id T : String} {g : DFn}
theorem pd_bc (ho : OC X (.builtin id) g) (hm : X.mg x = none) (hv : bootBuiltins x = some (.builtin id)) (ha : PDA X (e :: es) t) (hg : Gl X x := by rfl) (hn : x ≠ "__name__" := by decide) (hdb : (x == ("__debug__" : Str)) = false := by decide)
    (he : starEach (e :: es) X.env = (false, eval e X.env) :: starEach es X.env := by exact se_cons _ _ _ rfl) (hpl : (backTo pos (starEach es X.env)).any (·.1) = false := by exact se_any _ _ _ rfl) : PDE X (.Call (.Name x p) (e :: es) [] pos) (dFun g t) := by
  intro S r m σ Q sa re q pins s I
  refine wpAny_Call_Name_kw (ld_blt I hg hm hv ?_ hn hdb)
  refine PyProof.Rows.callWith_builtin1 (thn (ha.run sa re q I pos) ?_) he hpl
  rintro us s1 ⟨xs, ds, m1, T, st, sa1, rds, rv, I1, q1⟩
  exact ho pins s1 σ T m1 ds xs us Q sa1 rds rv I1 q1
theorem pd_bt (ho : OC X (.type T) g) (hm : X.mg x = none) (hv : bootBuiltins x = some (.type T)) (ha : PDA X (e :: es) t) (hg : Gl X x := by rfl) (hn : x ≠ "__name__" := by decide) (hdb : (x == ("__debug__" : Str)) = false := by decide)
    (he : starEach (e :: es) X.env = (false, eval e X.env) :: starEach es X.env := by exact se_cons _ _ _ rfl) (hpl : (backTo pos (starEach es X.env)).any (·.1) = false := by exact se_any _ _ _ rfl) : PDE X (.Call (.Name x p) (e :: es) [] pos) (dFun g t) := by
  intro S r m σ Q sa re q pins s I
  refine wpAny_Call_Name_kw (ld_blt I hg hm hv ?_ hn hdb)
  refine PyProof.Rows.callWith_type1 (thn (ha.run sa re q I pos) ?_) he hpl
  rintro us s1 ⟨xs, ds, m1, T, st, sa1, rds, rv, I1, q1⟩
  exact ho pins s1 σ T m1 ds xs us Q sa1 rds rv I1 q1
theorem reps1 {K : PySem.W.Frag} {i : List Addr} {F : Hp} {d : D} {xs : List V} (r : Reps K i F [d] xs) : ∃ v, xs = [v] ∧ Rep K i F d v := by
  cases r with
  | cons h r => cases r; exact ⟨_, rfl, h⟩
theorem reps2 {K : PySem.W.Frag} {i : List Addr} {F : Hp} {d e : D} {xs : List V} (r : Reps K i F [d, e] xs) : ∃ v w, xs = [v, w] ∧ Rep K i F d v ∧ Rep K i F e w := by
  cases r with
  | cons h r => obtain ⟨w, rfl, h2⟩ := reps1 r; exact ⟨_, w, rfl, h, h2⟩
def gAbs : DFn := fun ds m => match ds with
  | [.int i] => .ok (.int (if i < 0 then -i else i)) m
  | _ => .stuck
theorem oc_abs : OC X (.builtin "abs") gAbs := by
  refine oc_of call_abs fun S m ds xs Q W sa rs p => ?_
  unfold gAbs at p
  split at p
  · obtain ⟨v, rfl, r⟩ := reps1 rs
    cases r
    exact ⟨_, rfl, Post.ok p (Stp.refl S) sa (.int _)⟩
  · exact p.elim
def gInt : DFn := fun ds m => match ds with
  | [.int i] => .ok (.int i) m
  | [.bl b] => .ok (.int (if b then 1 else 0)) m
  | _ => .stuck
theorem oc_int : OC X (.type "int") gInt := by
  refine oc_of call_int1 fun S m ds xs Q W sa rs p => ?_
  unfold gInt at p
  split at p
  · obtain ⟨v, rfl, r⟩ := reps1 rs
    cases r
    exact .inl ⟨_, rfl, Post.ok p (Stp.refl S) sa (.int _)⟩
  · obtain ⟨v, rfl, r⟩ := reps1 rs
    cases r
    exact .inr ⟨_, rfl, Post.ok p (Stp.refl S) sa (.int _)⟩
  · exact p.elim
def gBool : DFn := fun ds m => match ds with
  | [.int i] => .ok (.bl (i != 0)) m
  | [.bl b] => .ok (.bl b) m
  | _ => .stuck
theorem oc_bool : OC X (.type "bool") gBool := by
  refine oc_of call_bool1 fun S m ds xs Q W sa rs p => ?_
  unfold gBool at p
  split at p
  · obtain ⟨v, rfl, r⟩ := reps1 rs
    cases r
    exact .inl ⟨_, rfl, Post.ok p (Stp.refl S) sa (.bl _)⟩
  · obtain ⟨v, rfl, r⟩ := reps1 rs
    cases r
    exact .inr ⟨_, rfl, Post.ok p (Stp.refl S) sa (.bl _)⟩
  · exact p.elim
def gMin2 : DFn := fun ds m => match ds with
  | [.int i, .int j] => .ok (.int (if j < i then j else i)) m
  | _ => .stuck
theorem oc_min2 (hc : X.calm = true) : OC X (.builtin "min") gMin2 := by
  refine oc_of (call_min2 hc) fun S m ds xs Q W sa rs p => ?_
  unfold gMin2 at p
  split at p
  · obtain ⟨v, w, rfl, r, r2⟩ := reps2 rs
    cases r; cases r2
    exact ⟨_, _, rfl, Post.ok p (Stp.refl S) sa (.int _)⟩
  · exact p.elim
def gMax2 : DFn := fun ds m => match ds with
  | [.int i, .int j] => .ok (.int (if j > i then j else i)) m
  | _ => .stuck
theorem oc_max2 (hc : X.calm = true) : OC X (.builtin "max") gMax2 := by
  refine oc_of (call_max2 hc) fun S m ds xs Q W sa rs p => ?_
  unfold gMax2 at p
  split at p
  · obtain ⟨v, w, rfl, r, r2⟩ := reps2 rs
    cases r; cases r2
    exact ⟨_, _, rfl, Post.ok p (Stp.refl S) sa (.int _)⟩
  · exact p.elim
def gStrI : DFn := fun ds m => match ds with
  | [.int i] => if i.natAbs.log2 < 1920 then .ok (.str (toString i)) m else .stuck
  | _ => .stuck
theorem oc_strI : OC X (.type "str") gStrI := by
  refine oc_of call_str_int fun S m ds xs Q W sa rs p => ?_
  unfold gStrI at p
  split at p
  · split at p
    · rename_i h
      obtain ⟨v, rfl, r⟩ := reps1 rs
      cases r
      exact ⟨_, rfl, h, Post.ok p (Stp.refl S) sa (.str _)⟩
    · exact p.elim
  · exact p.elim
def gLen : DFn := fun ds m => match ds with
  | [.str x] => if x.length ≤ sizeLine then .ok (.int x.length) m else .stuck
  | [d] => match seqA m d with
    | some ds => .ok (.int ds.length) m
    | none => .stuck
  | _ => .stuck
theorem oc_len : OC X (.builtin "len") gLen := by
  refine oc_of (call_len_str.or call_len_seq) fun S m ds xs Q W sa rs p => ?_
  unfold gLen at p
  split at p
  · split at p
    · rename_i h
      obtain ⟨v, rfl, r⟩ := reps1 rs
      cases r
      exact .inl ⟨_, rfl, h, Post.ok p (Stp.refl S) sa (.int _)⟩
    · exact p.elim
  · split at p
    · rename_i ds' e
      obtain ⟨v, rfl, r⟩ := reps1 rs
      obtain ⟨a, ys, rfl, h1, h2⟩ := seqA_ok sa r e
      refine .inr ⟨a, ys, rfl, h1, ?_⟩
      rw [h2.len] at p
      exact Post.ok p (Stp.refl S) sa (.int _)
    · exact p.elim
  · exact p.elim
/-- list(xs): a new one, never changed -/
def gList : DFn := fun ds m => match ds with
  | [d] => match seqA m d with
    | some es => .ok (.lst es) m
    | none => .stuck
  | _ => .stuck
theorem oc_list : OC X (.type "list") gList := by
  refine oc_of call_list_of fun S m ds xs Q W sa rs p => ?_
  unfold gList at p
  split at p
  · split at p
    · rename_i es e
      obtain ⟨v, rfl, r⟩ := reps1 rs
      obtain ⟨a, ys, rfl, h1, h2⟩ := seqA_ok sa r e
      refine ⟨a, ys, rfl, h1, fun l hl => ?_⟩
      have st := Stp.new sa (o := .lst ys) hl
      exact p (.ref l) (S.new l (.lst ys)) st (sa.new hl) (.lst (.inl (.inl upd_same)) (h2.stp st))
    · exact p.elim
  · exact p.elim
/-- list(xs): one of the store -/
def gListM : DFn := fun ds m => match ds with
  | [d] => match seqA m d with
    | some es => .ok (.loc m.length) (m ++ [.lst es])
    | none => .stuck
  | _ => .stuck
theorem oc_listM : OC X (.type "list") gListM := by
  refine oc_of call_list_of fun S m ds xs Q W sa rs p => ?_
  unfold gListM at p
  split at p
  · split at p
    · rename_i es e
      obtain ⟨v, rfl, r⟩ := reps1 rs
      obtain ⟨a, ys, rfl, h1, h2⟩ := seqA_ok sa r e
      refine ⟨a, ys, rfl, h1, fun l hl => ?_⟩
      have st := Stp.tok sa (o := .lst ys) hl
      refine p (.ref l) (S.tok l (.lst ys)) st (sa.tok hl (q := .lst es) ⟨ys, upd_same, h2.stp st⟩) (.loc ?_)
      show (S.i ++ [l])[m.length]? = some l
      rw [← sa.len, List.getElem?_append_right (Nat.le_refl _), Nat.sub_self]
      rfl
    · exact p.elim
  · exact p.elim
def toBs : List D → Option (List Bool)
  | [] => some []
  | .bl b :: ds => match toBs ds with
    | some bs => some (b :: bs)
    | none => none
  | _ => none
theorem toBs_ok {K : PySem.W.Frag} {i : List Addr} {F : Hp} : ∀ {ds : List D} {xs : List V} {bs : List Bool}, Reps K i F ds xs → toBs ds = some bs → xs = bs.map V.bl
  | [], _, _, r, h => by cases r; cases h; rfl
  | d :: ds, _, _, r, h => by
    cases r with
    | cons h1 h2 =>
      cases h1 with
      | bl b =>
        unfold toBs at h
        cases q : toBs ds with
        | none => rw [q] at h; cases h
        | some bs => rw [q] at h; cases h; rw [toBs_ok h2 q]; rfl
      | _ => simp [toBs] at h
def gAll : DFn := fun ds m => match ds with
  | [d] => match (seqL m d).bind toBs with
    | some bs => .ok (.bl (bs.all _root_.id)) m
    | none => .stuck
  | _ => .stuck
def gAny : DFn := fun ds m => match ds with
  | [d] => match (seqL m d).bind toBs with
    | some bs => .ok (.bl (bs.any _root_.id)) m
    | none => .stuck
  | _ => .stuck
theorem oc_all (hc : X.calm = true) : OC X (.builtin "all") gAll := by
  refine oc_of (cr_all hc) fun S m ds xs Q W sa rs p => ?_
  unfold gAll at p
  split at p
  · rename_i d
    cases q : seqL m d with
    | none => rw [q] at p; exact (show False from p).elim
    | some es =>
      rw [q] at p
      cases q2 : toBs es with
      | none => rw [show (some es).bind toBs = toBs es from rfl, q2] at p; exact (show False from p).elim
      | some bs =>
        rw [show (some es).bind toBs = toBs es from rfl, q2] at p
        obtain ⟨v, rfl, r⟩ := reps1 rs
        obtain ⟨a, ys, rfl, h1, h2⟩ := seqL_ok sa r q
        have := toBs_ok h2 q2
        subst this
        exact ⟨a, bs, rfl, h1, Post.ok p (Stp.refl S) sa (.bl _)⟩
  · exact p.elim
theorem oc_any (hc : X.calm = true) : OC X (.builtin "any") gAny := by
  refine oc_of (cr_any hc) fun S m ds xs Q W sa rs p => ?_
  unfold gAny at p
  split at p
  · rename_i d
    cases q : seqL m d with
    | none => rw [q] at p; exact (show False from p).elim
    | some es =>
      rw [q] at p
      cases q2 : toBs es with
      | none => rw [show (some es).bind toBs = toBs es from rfl, q2] at p; exact (show False from p).elim
      | some bs =>
        rw [show (some es).bind toBs = toBs es from rfl, q2] at p
        obtain ⟨v, rfl, r⟩ := reps1 rs
        obtain ⟨a, ys, rfl, h1, h2⟩ := seqL_ok sa r q
        have := toBs_ok h2 q2
        subst this
        exact ⟨a, bs, rfl, h1, Post.ok p (Stp.refl S) sa (.bl _)⟩
  · exact p.elim
def toIs : List D → Option (List Int)
  | [] => some []
  | .int b :: ds => match toIs ds with
    | some bs => some (b :: bs)
    | none => none
  | _ => none
theorem toIs_ok {K : PySem.W.Frag} {i : List Addr} {F : Hp} : ∀ {ds : List D} {xs : List V} {bs : List Int}, Reps K i F ds xs → toIs ds = some bs → xs = bs.map V.int
  | [], _, _, r, h => by cases r; cases h; rfl
  | d :: ds, _, _, r, h => by
    cases r with
    | cons h1 h2 =>
      cases h1 with
      | int b =>
        unfold toIs at h
        cases q : toIs ds with
        | none => rw [q] at h; cases h
        | some bs => rw [q] at h; cases h; rw [toIs_ok h2 q]; rfl
      | _ => simp [toIs] at h
def minI : List Int → Int
  | [] => 0
  | x :: xs => xs.foldl min x
def maxI : List Int → Int
  | [] => 0
  | x :: xs => xs.foldl max x
end
end DL

namespace DL
open PySem PySem.Spec PyProof.Rows L2
variable [LamTab]
section
variable {X : Cx}
/-! ### subscripts, slices -/
def gIx : D2 := fun x i m => match i with
  | .int i => match x with
    | .str z => if z.length ≤ sizeLine then (match atI z.cps.toList i with
      | some c => .ok (.str ⟨#[c]⟩) m
      | none => .stuck) else .stuck
    | x => match seqA m x with
      | some ds => match atI ds i with
        | some d => .ok d m
        | none => .stuck
      | none => .stuck
  | _ => .stuck
theorem atI_reps {K : PySem.W.Frag} {ι : List Addr} {F : Hp} {ds : List D} {xs : List V} {i : Int} {d : D} (r : Reps K ι F ds xs) (h : atI ds i = some d) : ∃ v, atI xs i = some v ∧ Rep K ι F d v := by
  unfold atI at h ⊢
  rw [← r.len]
  cases q : ixN ds.length i with
  | none => rw [q] at h; cases h
  | some j => rw [q] at h; exact r.get h
variable {a b e : Expr} {es : List Expr} {ta tb : DE} {t : DA} {pos : Pos}
theorem pd_ix (ha : PDE X a ta) (hb : PDE X b tb) (hs : PlainIx b := by exact fun _ _ => rfl) : PDE X (.Subscript a b pos) (dBin gIx ta tb) := by
  intro S r m σ Q sa re p pins s I
  refine Subscript_ (thn (ha.run sa re p I) ?_)
  rintro v s1 ⟨x, d, m1, T, st, sa1, rd, r1, I1, q⟩
  refine thn (hb.run sa1 (re.stp st) q I1) ?_
  rintro u s2 ⟨y, d', m2, U, st2, sa2, rd2, r2, I2, q2⟩
  refine ix_seq a b pins s2 σ U.H x y v u Q I2 r1 r2 ?_ (hs _ _)
  unfold gIx at q2
  split at q2
  · cases rd2
    split at q2
    · cases (rd.stp st2)
      split at q2
      · rename_i hz
        split at q2
        · rename_i c ec
          exact .inr (.inr ⟨_, _, c, rfl, rfl, hz, ec, Post.ok q2 (Stp.refl U) sa2 (.str _)⟩)
        · exact q2.elim
      · exact q2.elim
    · split at q2
      · rename_i ds e1
        split at q2
        · rename_i dd e2
          obtain ⟨p, xs, rfl, h1, h2⟩ := seqA_ok sa2 (rd.stp st2) e1
          obtain ⟨vv, h3, h4⟩ := atI_reps h2 e2
          rcases h1 with h1 | h1
          · exact .inl ⟨p, xs, _, vv, rfl, rfl, h1, h3, Post.ok q2 (Stp.refl U) sa2 h4⟩
          · exact .inr (.inl ⟨p, xs, _, vv, rfl, rfl, h1, h3, Post.ok q2 (Stp.refl U) sa2 h4⟩)
        · exact q2.elim
      · exact q2.elim
  · exact q2.elim
/-- a part of a slice -/
abbrev DO := En → Mu → Res (Option Int)
abbrev RO : Wd → Option Int → Option Int → Prop := fun _ a b => a = b
def WO (X : Cx) (e : Option Expr) : TO := fun σ H Q => ∀ (pins : List (Addr × Obj)) (s : Shared) (u : TO), PO X e u → u σ H Q → True
def PDO (X : Cx) (e : Option Expr) (t : DO) : Prop := ∃ u : TO, PO X e u ∧ ∀ S r m σ Q, Sta X.K S m → RelE X.K S r σ → Post RO X.K S (t r m) Q (fun c d H => Fly X c d σ H) → u σ S.H Q
def dNoPart : DO := fun _ m => .ok none m
def dPart (t : DE) : DO := fun e m => (t e m).bind fun d m1 => match d with
  | .int i => .ok (some i) m1
  | _ => .stuck
theorem pdo_none : PDO X none dNoPart := ⟨_, po_none, fun S r m σ Q sa re p => Post.ok p (Stp.refl S) sa rfl⟩
theorem pdo_some (h : PDE X e ta) : PDO X (some e) (dPart ta) := ⟨_, po_some (mxE X e), fun S r m σ Q sa re p => by
  refine h S r m σ _ sa re (Post.bindI p fun d m1 v T st sa1 rd q => ?_)
  cases rd with
  | int i => exact ⟨i, rfl, Post.ok q (Stp.refl T) sa1 rfl⟩
  | _ => exact q.elim⟩
def cutD (xs : List D) (lo hi : Option Int) : List D := (xs.drop (HT.sIx xs.length 0 lo)).take (HT.sIx xs.length xs.length hi - HT.sIx xs.length 0 lo)
theorem cut_reps {K : PySem.W.Frag} {ι : List Addr} {F : Hp} {ds : List D} {xs : List V} (r : Reps K ι F ds xs) (lo hi : Option Int) : Reps K ι F (cutD ds lo hi) (cutV xs lo hi) := by
  unfold cutD cutV
  rw [r.len]
  exact (r.drop _).take _
/-- a slice of a list: a new list, never changed -/
def dSl (t : DE) (lo hi : DO) : DE := fun e m => (t e m).bind fun d m1 => (lo e m1).bind fun l m2 => (hi e m2).bind fun h m3 => match seqL m3 d with
  | some ds => .ok (.lst (cutD ds l h)) m3
  | none => .stuck
theorem pd_sl {lo hi : Option Expr} {tl th : DO} {p2 : Pos} (ha : PDE X a ta) (hl : PDO X lo tl) (hh : PDO X hi th) : PDE X (.Subscript a (.Slice lo hi none p2) pos) (dSl ta tl th) := by
  obtain ⟨ul, hl1, hl2⟩ := hl
  obtain ⟨uh, hh1, hh2⟩ := hh
  refine pd_of (pe_slice sl_list (mxE X a) hl1 hh1) fun S r m σ Q sa re p => ?_
  refine ha S r m σ _ sa re (Post.bindI p fun d m1 v T st sa1 rd q => ?_)
  refine hl2 T r m1 σ _ sa1 (re.stp st) (Post.bindI q fun l m2 l' U st2 sa2 rl q2 => ?_)
  have rl : l = l' := rl
  subst rl
  refine hh2 U r m2 σ _ sa2 ((re.stp st).stp st2) (Post.bindI q2 fun h m3 h' Y st3 sa3 rh q3 => ?_)
  have rh : h = h' := rh
  subst rh
  split at q3
  · rename_i ds e1
    obtain ⟨p, xs, rfl, h1, h2⟩ := seqL_ok sa3 ((rd.stp st2).stp st3) e1
    refine ⟨p, xs, rfl, h1, fun n hn => ?_⟩
    have st4 := Stp.new sa3 (o := .lst (cutV xs l h)) hn
    exact q3 (.ref n) (Y.new n (.lst (cutV xs l h))) st4 (sa3.new hn) (.lst (.inl (.inl upd_same)) ((cut_reps h2 l h).stp st4))
  · exact q3.elim

/-! ### statements -/
theorem RelE.start {K : PySem.W.Frag} {S : Wd} {e : En} {σ : L2.St} (r : RelE K S e σ) : RelE K S e σ := r
def dSeq (t u : DS) : DS := fun e m => match t e m with
  | .nx e1 m1 => u e1 m1
  | r => r
def dSkip : DS := fun e m => .nx e m
variable {st : Stmt} {rest sts stt : List Stmt} {u w : DS} {tt : DT}
theorem pds_nil : PDSs X [] dSkip := fun S r m σ N sa re p pins s I => (pss_nil (X := X)).run pins s σ S.H N I (p σ S (Stp.refl S) sa re)
theorem pds_cons (h1 : PDS X st u) (h2 : PDSs X rest w) : PDSs X (st :: rest) (dSeq u w) := by
  intro S r m σ N sa re p pins s I
  refine (pss_cons (mxS X st) (mxSs X rest)).run pins s σ S.H N I ?_
  refine h1 S r m σ _ sa re ?_
  unfold dSeq at p
  cases q : u r m with
  | nx e1 m1 =>
    rw [q] at p
    exact fun σ1 T st1 sa1 re1 => h2 T e1 m1 σ1 N sa1 re1 (PostS.step st1 p)
  | stuck => rw [q] at p; exact p
  | rt d m1 => rw [q] at p; exact p
  | bk e1 m1 => rw [q] at p; exact p
  | ct e1 m1 => rw [q] at p; exact p
  | exc C fs e1 m1 => rw [q] at p; exact p
theorem pds_one (h1 : PDS X st u) : PDSs X [st] u := fun S r m σ N sa re p pins s I => (pss_one (mxS X st)).run pins s σ S.H N I (h1 S r m σ N sa re p)
/-- an expression's answer in a statement -/
def rsOf (e : En) (r : Res D) (k : D → Mu → RS) : RS := match r with
  | .stuck => .stuck
  | .ok d m => k d m
  | .exc C fs m => .exc C fs e m
theorem PDE.stm {S : Wd} {e : En} {r : Res D} {k : D → Mu → RS} {N : Ends} {σ : L2.St} (re : RelE X.K S e σ) (p : PostS X.K S (rsOf e r k) N (Fly X)) {Q : VK}
    (h : ∀ d m v T, Stp S T → Sta X.K T m → Rep X.K T.i T.F d v → PostS X.K T (k d m) N (Fly X) → Q v T.H) : PostD X.K S r Q (fun c d H => Fly X c d σ H) := by
  cases r with
  | stuck => exact p
  | ok d m => exact fun v T st sa rd => h d m v T st sa rd (PostS.step (r := k d m) st p)
  | exc C fs m => exact fun dd vs T st hn sa h1 h2 => p dd vs σ T st hn sa (re.stp st) h1 h2
def dRet (t : DE) : DS := fun e m => rsOf e (t e m) fun d m1 => .rt d m1
theorem pds_ret (ha : PDE X a ta) : PDS X (.Return (some a) pos) (dRet ta) :=
  ps_of (ps_ret (mxE X a)) fun S r m σ N sa re p => ha S r m σ _ sa re (PDE.stm re p fun d m1 v T st sa1 rd q => q v T (Stp.refl T) sa1 rd)
theorem pds_retN : PDS X (.Return none pos) (fun _ m => .rt .non m) := ps_of ps_retN fun S r m σ N sa re p => p .non S (Stp.refl S) sa .non
theorem pds_pass : PDS X (.Pass pos) dSkip := ps_of ps_pass fun S r m σ N sa re p => p σ S (Stp.refl S) sa re
theorem pds_break : PDS X (.Break pos) (fun e m => .bk e m) := ps_of ps_break fun S r m σ N sa re p => p σ S (Stp.refl S) sa re
theorem pds_continue : PDS X (.Continue pos) (fun e m => .ct e m) := ps_of ps_continue fun S r m σ N sa re p => p σ S (Stp.refl S) sa re
def dStuck : DS := fun _ _ => .stuck
theorem pds_stuck : PDS X st dStuck := fun S r m σ N sa re p => p.elim
def dDrop (t : DE) : DS := fun e m => rsOf e (t e m) fun _ m1 => .nx e m1
theorem pds_expr (ha : PDE X a ta) (hs : swapsWith a none pos.line X.env = pure false := by rfl) : PDS X (.Expr a pos) (dDrop ta) :=
  ps_of (ps_expr (mxE X a) hs) fun S r m σ N sa re p => ha S r m σ _ sa re (PDE.stm re p fun d m1 v T st sa1 rd q => q σ T (Stp.refl T) sa1 (re.stp st))
def dSet (i : Nat) (t : DE) : DS := fun e m => rsOf e (t e m) fun d m1 => .nx (e.set i (some d)) m1
theorem pds_set {i : Nat} {x : Str} {pos' : Pos} (ha : PDE X a ta) (hN : X.N.Nodup) (hi : X.N[i]? = some x := by rfl) (hx : Loc X.env.scope x := by first | exact Or.inl rfl | exact Or.inr rfl) (hs : swapsWith a (some (.Name x pos')) pos.line X.env = pure false := by rfl)
    (hf : X.fn x = true ∨ X.env.scope.names.lookup x = some .local := by first | exact .inl rfl | exact .inr rfl | assumption) : PDS X (.Assign [.Name x pos'] a pos) (dSet i ta) :=
  ps_of (ps_set hN hi hx (mxE X a) hs hf) fun S r m σ N sa re p => ha S r m σ _ sa re (PDE.stm re p fun d m1 v T st sa1 rd q => q _ T (Stp.refl T) sa1 ((re.stp st).set i rd))
def rsOfB (e : En) (r : Res Bool) (k : Bool → Mu → RS) : RS := match r with
  | .stuck => .stuck
  | .ok d m => k d m
  | .exc C fs m => .exc C fs e m
theorem PDT.stm {S : Wd} {e : En} {r : Res Bool} {k : Bool → Mu → RS} {N : Ends} {σ : L2.St} (re : RelE X.K S e σ) (p : PostS X.K S (rsOfB e r k) N (Fly X)) {Q : Bool → Hp → Prop}
    (h : ∀ d m T, Stp S T → Sta X.K T m → PostS X.K T (k d m) N (Fly X) → Q d T.H) : PostB X.K S r Q (fun c d H => Fly X c d σ H) := by
  cases r with
  | stuck => exact p
  | ok d m =>
    intro v T st sa rd
    cases (show d = v from rd)
    exact h d m T st sa (PostS.step (r := k d m) st p)
  | exc C fs m => exact fun dd vs T st hn sa h1 h2 => p dd vs σ T st hn sa (re.stp st) h1 h2
def dIfS (t : DT) (u w : DS) : DS := fun e m => rsOfB e (t e m) fun b m1 => if b then u e m1 else w e m1
theorem pds_if {c : Expr} (hc : PDT X c tt) (h1 : PDSs X sts u) (h2 : PDSs X stt w) : PDS X (.If c sts stt pos) (dIfS tt u w) := by
  refine ps_of (ps_if (mxT X c) (mxSs X sts) (mxSs X stt)) fun S r m σ N sa re p => hc S r m σ _ sa re (PDT.stm re p fun d m1 T st sa1 q => ?_)
  cases d with
  | true => exact iteT (h1 T r m1 σ N sa1 (re.stp st) q)
  | false => exact iteF (h2 T r m1 σ N sa1 (re.stp st) q)

/-! ### targets -/
abbrev DG := D → En → Option En
def WG (X : Cx) (tg : Expr) : TG := fun v σ H Q => ∀ (pins : List (Addr × Obj)) (s : Shared) (u : Value), Inv X pins σ H s → RelV v u → wpAny (model X.prog X.w) X.A (assign tg X.env u) (fun _ s' => ∃ σ' H', Inv X pins σ' H' s' ∧ Q σ' H') X.xe s
def WGs (X : Cx) (ts : List Expr) : TGs := fun vs σ H Q => ∀ (pins : List (Addr × Obj)) (s : Shared) (us : List Value), Inv X pins σ H s → Vals vs us → wpAny (model X.prog X.w) X.A (assignInOrder ((assignEach ts X.env).map (·.2)) us) (fun _ s' => ∃ σ' H', Inv X pins σ' H' s' ∧ Q σ' H') X.xe s
theorem mxG (X : Cx) (e : Expr) : PG X e (WG X e) := ⟨fun pins s σ H v u Q I r h => h pins s u I r⟩
theorem mxGs (X : Cx) (e : List Expr) : PGs X e (WGs X e) := ⟨fun pins s σ H v u Q I r h => h pins s u I r⟩
/-- but for these slots as before -/
def ButSl (sl : List Nat) (σ σ1 : L2.St) : Prop := ∀ vs : List Nat, (∀ i ∈ sl, i ∈ vs) → wipe σ1 vs = wipe σ vs
theorem wipe_set {σ : L2.St} {i : Nat} {x : Option V} : ∀ vs : List Nat, wipe (σ.set i x) vs = if i ∈ vs then wipe σ vs else (wipe σ vs).set i x
  | [] => by simp [wipe]
  | v :: vs => by
    have ih := wipe_set (σ := σ) (i := i) (x := x) vs
    unfold wipe
    rw [ih]
    by_cases hv : i ∈ vs
    · rw [if_pos hv, if_pos (List.mem_cons_of_mem _ hv)]
    · rw [if_neg hv]
      by_cases hi : i = v
      · subst hi
        rw [if_pos List.mem_cons_self, List.set_set]
      · rw [if_neg (by simp [hi, hv]), List.set_comm _ _ hi]
theorem butSl_set (σ : L2.St) (i : Nat) (x : Option V) : ButSl [i] σ (σ.set i x) := fun vs h => by rw [wipe_set, if_pos (h i (by simp))]
def PDG (X : Cx) (tg : Expr) (g : DG) (sl : List Nat) : Prop := ∀ S e m σ d v e1 (Q : L2.St → Hp → Prop), Sta X.K S m → RelE X.K S e σ → Rep X.K S.i S.F d v → g d e = some e1 → (∀ σ1, RelE X.K S e1 σ1 → ButSl sl σ σ1 → Q σ1 S.H) → WG X tg v σ S.H Q
def dName (i : Nat) : DG := fun d e => some (e.set i (some d))
theorem pdg_name (i : Nat) {x : Str} (hN : X.N.Nodup) (hi : X.N[i]? = some x := by rfl) (hx : Loc X.env.scope x := by first | exact Or.inl rfl | exact Or.inr rfl) (hf : X.fn x = true ∨ X.env.scope.names.lookup x = some .local := by first | exact .inl rfl | exact .inr rfl | assumption) : PDG X (.Name x pos) (dName i) [i] :=
  fun S e m σ d v e1 Q sa re rd h q pins s u I r => by
    cases h
    exact (pg_name hN hi hx hf).run pins s σ S.H v u Q I r (q _ (re.set i rd) (butSl_set σ i _))
def PDGs (X : Cx) (ts : List Expr) (g : List D → En → Option En) (sl : List Nat) : Prop := ∀ S e m σ ds vs e1 (Q : L2.St → Hp → Prop), Sta X.K S m → RelE X.K S e σ → Reps X.K S.i S.F ds vs → g ds e = some e1 → (∀ σ1, RelE X.K S e1 σ1 → ButSl sl σ σ1 → Q σ1 S.H) → WGs X ts vs σ S.H Q
def dGnil : List D → En → Option En := fun ds e => match ds with
  | [] => some e
  | _ => none
def dGcons (g : DG) (h : List D → En → Option En) : List D → En → Option En := fun ds e => match ds with
  | d :: r => (g d e).bind fun e1 => h r e1
  | [] => none
theorem pdgs_nil : PDGs X [] dGnil [] := fun S e m σ ds vs e1 Q sa re rd h q pins s us I r => by
  cases rd with
  | nil => cases h; exact (pgs_nil (X := X)).run pins s σ S.H [] us Q I r ⟨rfl, q σ re fun vs _ => rfl⟩
  | cons _ _ => cases h
theorem pdgs_cons {g : DG} {h : List D → En → Option En} {sl sl' : List Nat} (h1 : PDG X a g sl) (h2 : PDGs X es h sl') (hs : (assignEach (a :: es) X.env).map (·.2) = assign a X.env :: (assignEach es X.env).map (·.2) := by rfl) : PDGs X (a :: es) (dGcons g h) (sl ++ sl') := by
  intro S e m σ ds vs e1 Q sa re rd hh q pins s us I r
  cases rd with
  | nil => cases hh
  | @cons d v ds' vs' r1 r2 =>
    have hh : (g d e).bind (fun e1 => h ds' e1) = some e1 := hh
    cases q1 : g d e with
    | none => rw [q1] at hh; cases hh
    | some e2 =>
      rw [q1] at hh
      exact (pgs_cons (mxG X a) (mxGs X es) hs).run pins s σ S.H (v :: vs') us Q I r ⟨v, vs', rfl, h1 S e m σ d v e2 _ sa re r1 q1 fun σ1 re1 b1 => h2 S e2 m σ1 ds' vs' e1 _ sa re1 r2 hh fun σ2 re2 b2 => q σ2 re2 fun vs hv => (b2 vs fun i hi => hv i (List.mem_append_right _ hi)).trans (b1 vs fun i hi => hv i (List.mem_append_left _ hi))⟩
def dTupG (n : Nat) (g : List D → En → Option En) : DG := fun d e => match d with
  | .tup ds => if ds.length = n then g ds e else none
  | _ => none
theorem pdg_tup {n k : Nat} {g : List D → En → Option En} {sl : List Nat} (hc : X.calm = true) (h : PDGs X es g sl) (hn : (assignEach es X.env).length = n := by rfl) (hst : (assignEach es X.env).findIdx? (·.1) = none := by rfl) : PDG X (.Tuple es k pos) (dTupG n g) sl := by
  intro S e m σ d v e1 Q sa re rd hh q pins s u I r
  cases rd with
  | tup h1 h2 =>
    unfold dTupG at hh
    dsimp only at hh
    split at hh
    · rename_i hl
      exact (pg_tup hc (mxGs X es) hn hst).run pins s σ S.H _ u Q I r ⟨_, _, rfl, SqT.ext' h1 sa.sub, by rw [← h2.len]; exact hl, h S e m σ _ _ e1 Q sa re h2 hh q⟩
    · cases hh
  | _ => cases hh
def dAsg (t : DE) (g : DG) : DS := fun e m => rsOf e (t e m) fun d m1 => match g d e with
  | some e1 => .nx e1 m1
  | none => .stuck
theorem pds_asg {tg : Expr} {g : DG} {sl : List Nat} (ha : PDE X a ta) (hg : PDG X tg g sl) (hs : swapsWithSole [tg] a pos.line X.env = pure false := by rfl) (hw : swappedStores [tg] a X.env = pure none := by rfl)
    (h1 : (assignEach [tg] X.env).map (·.2) = [assign tg X.env] := by rfl) : PDS X (.Assign [tg] a pos) (dAsg ta g) := by
  refine ps_of (ps_asg (mxE X a) (mxG X tg) hs hw h1) fun S r m σ N sa re pp => ha S r m σ _ sa re (PDE.stm re pp fun d m1 v T st sa1 rd q => ?_)
  split at q
  · rename_i e1 h
    exact hg T r m1 σ d v e1 N.nx sa1 (re.stp st) rd h fun σ1 re1 _ => q σ1 T (Stp.refl T) sa1 re1
  · exact q.elim
/-- a, b = x, y with local names -/
def dPar (i j : Nat) (t : DA) : DS := fun e m => match t e m with
  | .ok [x, y] m1 => .nx ((e.set i (some x)).set j (some y)) m1
  | .exc C fs m1 => .exc C fs e m1
  | _ => .stuck
theorem pds_par {i j : Nat} {x y : Str} {px py pt : Pos} {kt k2 pt2} (ha : PDA X [a, b] t) (hc : X.calm = true) (hN : X.N.Nodup) (hw : swappedStores [.Tuple [.Name x px, .Name y py] kt pt] (.Tuple [a, b] k2 pt2) X.env = pure (some [x, y]) := by rfl) (hi : X.N[i]? = some x := by rfl) (hj : X.N[j]? = some y := by rfl) (hij : i ≠ j := by decide)
    (hx : X.env.scope.names.lookup x = some .local := by rfl) (hy : X.env.scope.names.lookup y = some .local := by rfl)
    (hs : swapsWithSole [.Tuple [.Name x px, .Name y py] kt pt] (.Tuple [a, b] k2 pt2) pos.line X.env = pure false := by rfl) :
    PDS X (.Assign [.Tuple [.Name x px, .Name y py] kt pt] (.Tuple [a, b] k2 pt2) pos) (dPar i j t) := by
  refine ps_of (ps_par hc hN hi hj hij hx hy (mxA X _) hw hs) fun S r m σ N sa re p => ha S r m σ _ sa re ?_
  unfold dPar at p
  cases q : t r m with
  | stuck => rw [q] at p; exact p
  | exc C fs m1 => rw [q] at p; exact fun dd vs T st hn sa1 h1 h2 => p dd vs σ T st hn sa1 (re.stp st) h1 h2
  | ok ds m1 =>
    rw [q] at p
    intro vs T st sa1 rds
    split at p
    · rename_i d1 d2 m2 heq
      cases heq
      obtain ⟨v, w, rfl, r1, r2⟩ := reps2 rds
      exact ⟨v, w, rfl, p _ T st sa1 (((re.stp st).set i r1).set j r2)⟩
    · rename_i heq; cases heq
    · exact p.elim
end
end DL

namespace DL
open PySem PySem.Spec PyProof.Rows L2
variable [LamTab]
/-! ### what a loop walks -/
def ItOk (K : PySem.W.Frag) (T : Wd) (J : It) (ds : List D) : Prop := ∀ (U : Wd) (m : Mu) (i : Nat), Stp T U → Sta K U m →
  (∀ d, ds[i]? = some d → J.go i U.H ∧ ∀ x H', J.yld i U.H x H' → ∃ Y : Wd, Y.H = H' ∧ Stp U Y ∧ Sta K Y m ∧ Rep K Y.i Y.F d x) ∧ (ds.length ≤ i → J.stop i U.H)
def PostI (K : PySem.W.Frag) (S : Wd) (r : Res (List D)) (R : It → Hp → Prop) (W : XK) : Prop := match r with
  | .stuck => False
  | .ok ds m => ∀ J T, Stp S T → Sta K T m → ItOk K T J ds → R J T.H
  | .exc C fs m => ∀ dd vs T, Stp S T → S.H dd = none → Sta K T m → T.H dd = some (.xd vs) → RepF K T.i T.F fs vs → W (.ref C) (some dd) T.H
def WI (X : Cx) (tg iter : Expr) : TI := fun σ H R => ∀ (pins : List (Addr × Obj)) (s : Shared), Inv X pins σ H s →
  wpAny (model X.prog X.w) X.A (eval iter X.env) (fun v s1 => wpAny (model X.prog X.w) X.A (pyIter v) (PIE X pins σ tg R) X.xe s1) X.xe s
theorem mxI (X : Cx) (tg iter : Expr) : PI X tg iter (WI X tg iter) := ⟨fun pins s σ H R I h => h pins s I⟩
def PDI (X : Cx) (tg iter : Expr) (t : DA) : Prop := ∀ S r m σ R, Sta X.K S m → RelE X.K S r σ → PostI X.K S (t r m) R (fun c d H => Fly X c d σ H) → WI X tg iter σ S.H R
theorem pdi_of {X : Cx} {tg iter : Expr} {u : TI} {t : DA} (h : PI X tg iter u) (k : ∀ S r m σ R, Sta X.K S m → RelE X.K S r σ → PostI X.K S (t r m) R (fun c d H => Fly X c d σ H) → u σ S.H R) : PDI X tg iter t :=
  fun S r m σ R sa re p pins s I => h.run pins s σ S.H R I (k S r m σ R sa re p)
/-- from a result to what is walked -/
theorem PostI.bindI {α β : Type} {R' : Wd → α → β → Prop} {K : PySem.W.Frag} {S : Wd} {r : Res α} {f : α → Mu → Res (List D)} {Q : It → Hp → Prop} {Q' : β → Hp → Prop} {W : XK} (h : PostI K S (r.bind f) Q W)
    (g : ∀ a m v T, Stp S T → Sta K T m → R' T a v → PostI K T (f a m) Q W → Q' v T.H) : Post R' K S r Q' W := by
  cases r with
  | stuck => exact h
  | ok a m =>
    intro v U s1 s2 s3
    refine g a m v U s1 s2 s3 ?_
    have h : PostI K S (f a m) Q W := h
    cases q : f a m with
    | stuck => rw [q] at h; exact h
    | ok ds m1 => rw [q] at h; exact fun J T st => h J T (s1.trans st)
    | exc C fs m1 => rw [q] at h; exact fun dd vs T st hn => h dd vs T (s1.trans st) (s1.old dd hn)
  | exc C fs m => exact h
section
variable {K : PySem.W.Frag} {T : Wd}
/-- a list that stands in the part that never changes -/
theorem frozen {m : Mu} {ds : List D} {v : V} (sa : Sta K T m) (r : Rep K T.i T.F (.lst ds) v) : ∃ a xs, v = .ref a ∧ Reps K T.i T.F ds xs ∧ ∀ U m', Stp T U → Sta K U m' → SqL K U.H a xs ∧ Reps K U.i U.F ds xs := by
  cases r with
  | lst h1 h2 => exact ⟨_, _, rfl, h2, fun U m' st sa' => ⟨SqL.ext' (SqL.ext' h1 st.ext) sa'.sub, h2.stp st⟩⟩
theorem frozenT {m : Mu} {ds : List D} {v : V} (sa : Sta K T m) (r : Rep K T.i T.F (.tup ds) v) : ∃ a xs, v = .ref a ∧ Reps K T.i T.F ds xs ∧ ∀ U m', Stp T U → Sta K U m' → SqT K U.H a xs ∧ Reps K U.i U.F ds xs := by
  cases r with
  | tup h1 h2 => exact ⟨_, _, rfl, h2, fun U m' st sa' => ⟨SqT.ext' (SqT.ext' h1 st.ext) sa'.sub, h2.stp st⟩⟩
end
section
variable {X : Cx} {tg a b : Expr} {es : List Expr} {ta tb : DE} {t : DA} {pos p tpos : Pos}
/-- over a list -/
def dItL (t : DE) : DA := fun e m => (t e m).bind fun d m1 => match d with
  | .lst ds => .ok ds m1
  | _ => .stuck
theorem pdi_list (ha : PDE X a ta) : PDI X tg a (dItL ta) := by
  refine pdi_of (pi_list (mxE X a)) fun S r m σ R sa re p => ?_
  refine ha S r m σ _ sa re (PostI.bindI p fun d m1 v T st sa1 rd q => ?_)
  split at q
  · rename_i ds
    obtain ⟨a, xs, rfl, hr, k⟩ := frozen sa1 rd
    refine ⟨a, rfl, ⟨xs, (k T m1 (Stp.refl T) sa1).1⟩, q _ T (Stp.refl T) sa1 fun U m' i st' sa' => ⟨fun d hd => ?_, fun hl => ⟨xs, (k U m' st' sa').1, by rw [← hr.len]; exact hl⟩⟩⟩
    obtain ⟨v, hv, rv⟩ := (k U m' st' sa').2.get hd
    refine ⟨⟨xs, v, (k U m' st' sa').1, hv⟩, fun x H' hy => ⟨U, hy.1.symm, Stp.refl U, sa', ?_⟩⟩
    have := hy.2 xs (k U m' st' sa').1
    rw [hv] at this; cases this
    exact rv
  · exact q.elim
/-- over a tuple -/
def dItT (t : DE) : DA := fun e m => (t e m).bind fun d m1 => match d with
  | .tup ds => .ok ds m1
  | _ => .stuck
theorem pdi_tup (ha : PDE X a ta) : PDI X tg a (dItT ta) := by
  refine pdi_of (pi_tup (mxE X a)) fun S r m σ R sa re p => ?_
  refine ha S r m σ _ sa re (PostI.bindI p fun d m1 v T st sa1 rd q => ?_)
  split at q
  · rename_i ds
    obtain ⟨a, xs, rfl, hr, k⟩ := frozenT sa1 rd
    refine ⟨a, rfl, ⟨xs, (k T m1 (Stp.refl T) sa1).1⟩, q _ T (Stp.refl T) sa1 fun U m' i st' sa' => ⟨fun d hd => ?_, fun hl => ⟨xs, (k U m' st' sa').1, by rw [← hr.len]; exact hl⟩⟩⟩
    obtain ⟨v, hv, rv⟩ := (k U m' st' sa').2.get hd
    refine ⟨⟨xs, v, (k U m' st' sa').1, hv⟩, fun x H' hy => ⟨U, hy.1.symm, Stp.refl U, sa', ?_⟩⟩
    have := hy.2 xs (k U m' st' sa').1
    rw [hv] at this; cases this
    exact rv
  · exact q.elim
/-- over range(..) -/
def rngD (lo : Int) (n : Nat) : List D := (List.range n).map fun (k : Nat) => .int (lo + (k : Int))
theorem rng_get (lo : Int) (n i : Nat) (d : D) (h : (rngD lo n)[i]? = some d) : i < n ∧ d = .int (lo + (i : Int)) := by
  unfold rngD at h
  rw [List.getElem?_map] at h
  cases q : (List.range n)[i]? with
  | none => rw [q] at h; cases h
  | some k =>
    rw [q] at h; cases h
    obtain ⟨h1, h2⟩ := List.getElem?_eq_some_iff.mp q
    simp at h1 h2
    subst h2
    exact ⟨h1, rfl⟩
theorem rng_len (lo : Int) (n : Nat) : (rngD lo n).length = n := by simp [rngD]
theorem itr_ok {K : PySem.W.Frag} {T : Wd} (lo : Int) (n : Nat) : ItOk K T (Itr lo n) (rngD lo n) := fun U m i st sa => ⟨fun d hd => by
    obtain ⟨h1, rfl⟩ := rng_get lo n i d hd
    exact ⟨h1, fun x H' hy => ⟨U, hy.1.symm, Stp.refl U, sa, by rw [hy.2]; exact .int _⟩⟩, fun hl => by rw [rng_len] at hl; exact hl⟩
def dItR1 (t : DA) : DA := fun e m => (t e m).bind fun ds m1 => match ds with
  | [.int j] => if -(2 ^ 62) ≤ j ∧ j < 2 ^ 62 then .ok (rngD 0 j.toNat) m1 else .stuck
  | _ => .stuck
def dItR2 (t : DA) : DA := fun e m => (t e m).bind fun ds m1 => match ds with
  | [.int i, .int j] => if -(2 ^ 62) ≤ i ∧ i < 2 ^ 62 ∧ -(2 ^ 62) ≤ j ∧ j < 2 ^ 62 then .ok (rngD i (j - i).toNat) m1 else .stuck
  | _ => .stuck
theorem pdi_range1 (hm : X.mg "range" = none) (ha : PDA X [a] t) (hg : Gl X "range" := by rfl) (hs : starEach [a] X.env = [(false, eval a X.env)] := by rfl) : PDI X tg (.Call (.Name "range" p) [a] [] pos) (dItR1 t) := by
  refine pdi_of (pi_range1 hg hm (mxA X [a]) hs) fun S r m σ R sa re p => ?_
  refine ha S r m σ _ sa re (PostI.bindI p fun d m1 v T st sa1 rd q => ?_)
  split at q
  · split at q
    · rename_i h
      obtain ⟨w, rfl, hw⟩ := reps1 rd
      cases hw
      exact ⟨_, rfl, h.1, h.2, q _ T (Stp.refl T) sa1 (itr_ok 0 _)⟩
    · exact q.elim
  · exact q.elim
theorem pdi_range2 (hm : X.mg "range" = none) (ha : PDA X [a, b] t) (hg : Gl X "range" := by rfl) (hs : starEach [a, b] X.env = [(false, eval a X.env), (false, eval b X.env)] := by rfl) (hs2 : starEach [b] X.env = [(false, eval b X.env)] := by rfl) : PDI X tg (.Call (.Name "range" p) [a, b] [] pos) (dItR2 t) := by
  refine pdi_of (pi_range2 hg hm (mxA X [a, b]) hs hs2) fun S r m σ R sa re p => ?_
  refine ha S r m σ _ sa re (PostI.bindI p fun d m1 v T st sa1 rd q => ?_)
  split at q
  · split at q
    · rename_i h
      obtain ⟨w, w2, rfl, hw, hw2⟩ := reps2 rd
      cases hw; cases hw2
      exact ⟨_, _, rfl, h, q _ T (Stp.refl T) sa1 (itr_ok _ _)⟩
    · exact q.elim
  · exact q.elim
/-- over enumerate(xs), zip(xs, ys) -/
def dItE (t : DA) : DA := fun e m => (t e m).bind fun ds m1 => match ds with
  | [.lst es] => .ok ((List.range es.length).zipWith (fun k d => .tup [.int (k : Nat), d]) es) m1
  | _ => .stuck
theorem enum_get (es : List D) (i : Nat) (d : D) (h : ((List.range es.length).zipWith (fun k d => D.tup [.int (k : Nat), d]) es)[i]? = some d) : ∃ x, es[i]? = some x ∧ d = .tup [.int (i : Nat), x] := by
  rw [List.getElem?_zipWith] at h
  cases q : (List.range es.length)[i]? with
  | none => rw [q] at h; cases h
  | some k =>
    cases q2 : es[i]? with
    | none => rw [q, q2] at h; cases h
    | some x =>
      rw [q, q2] at h; cases h
      obtain ⟨h1, h2⟩ := List.getElem?_eq_some_iff.mp q
      simp at h1 h2
      subst h2
      exact ⟨x, rfl, rfl⟩
theorem pdi_enum {elts : List Expr} {kk : Nat} (hm : X.mg "enumerate" = none) (ha : PDA X [a] t) (hg : Gl X "enumerate" := by rfl) (hs : starEach [a] X.env = [(false, eval a X.env)] := by rfl) : PDI X (.Tuple elts kk tpos) (.Call (.Name "enumerate" p) [a] [] pos) (dItE t) := by
  refine pdi_of (pi_enum hg hm (mxA X [a]) hs) fun S r m σ R sa re p => ?_
  refine ha S r m σ _ sa re (PostI.bindI p fun d m1 v T st sa1 rd q => ?_)
  split at q
  · rename_i es
    obtain ⟨w, rfl, hw⟩ := reps1 rd
    obtain ⟨a, xs, rfl, hr, k⟩ := frozen sa1 hw
    refine ⟨a, xs, rfl, (k T m1 (Stp.refl T) sa1).1, q _ T (Stp.refl T) sa1 fun U m' i st' sa' => ⟨fun d hd => ?_, fun hl => ⟨xs, (k U m' st' sa').1, ?_⟩⟩⟩
    · obtain ⟨x, hx, rfl⟩ := enum_get es i d hd
      obtain ⟨v, hv, rv⟩ := (k U m' st' sa').2.get hx
      refine ⟨⟨xs, v, (k U m' st' sa').1, hv⟩, fun y H' hy => ?_⟩
      obtain ⟨n, z, rfl, hn, rfl, hz⟩ := hy
      have hz' := hz xs (k U m' st' sa').1
      rw [hv] at hz'; cases hz'
      have st2 := Stp.new sa' (o := .tup [.int (i : Nat), v]) hn
      exact ⟨U.new n _, rfl, st2, sa'.new hn, .tup (.inl (.inl upd_same)) (.cons (.int _) (.cons (rv.stp st2) .nil))⟩
    · have hl : ((List.range es.length).zipWith (fun k d => D.tup [.int (k : Nat), d]) es).length ≤ i := hl
      rw [List.length_zipWith, List.length_range, Nat.min_self, hr.len] at hl
      exact hl
  · exact q.elim
def dItZ (t : DA) : DA := fun e m => (t e m).bind fun ds m1 => match ds with
  | [.lst xs, .lst ys] => .ok (xs.zipWith (fun x y => .tup [x, y]) ys) m1
  | [.tup xs, .tup ys] => .ok (xs.zipWith (fun x y => .tup [x, y]) ys) m1
  | _ => .stuck
theorem zip_get {xs ys : List D} {i : Nat} {d : D} (h : (xs.zipWith (fun x y => D.tup [x, y]) ys)[i]? = some d) : ∃ x y, xs[i]? = some x ∧ ys[i]? = some y ∧ d = .tup [x, y] := by
  rw [List.getElem?_zipWith] at h
  cases q : xs[i]? with
  | none => rw [q] at h; cases h
  | some k =>
    cases q2 : ys[i]? with
    | none => rw [q, q2] at h; cases h
    | some x => rw [q, q2] at h; cases h; exact ⟨k, x, rfl, rfl, rfl⟩
theorem pdi_zip {elts : List Expr} {kk : Nat} (hm : X.mg "zip" = none) (ha : PDA X [a, b] t) (hg : Gl X "zip" := by rfl) (hs : starEach [a, b] X.env = (false, eval a X.env) :: starEach [b] X.env := by rfl) (hpl : (backTo pos (starEach [b] X.env)).any (·.1) = false := by rfl) : PDI X (.Tuple elts kk tpos) (.Call (.Name "zip" p) [a, b] [] pos) (dItZ t) := by
  refine pdi_of (RZ.pi_zipA hg hm (mxA X [a, b]) hs hpl) fun S r m σ R sa re p => ?_
  refine ha S r m σ _ sa re (PostI.bindI p fun d m1 v T st sa1 rd q => ?_)
  split at q
  · obtain ⟨w, w2, rfl, hw, hw2⟩ := reps2 rd
    obtain ⟨a, xs, rfl, hr, k⟩ := frozen sa1 hw
    obtain ⟨b, ys, rfl, hr2, k2⟩ := frozen sa1 hw2
    refine ⟨a, b, xs, ys, rfl, .inl ⟨(k T m1 (Stp.refl T) sa1).1, (k2 T m1 (Stp.refl T) sa1).1, q _ T (Stp.refl T) sa1 fun U m' i st' sa' => ⟨fun d hd => ?_, fun hl => ⟨xs, ys, (k U m' st' sa').1, (k2 U m' st' sa').1, ?_⟩⟩⟩⟩
    · obtain ⟨x, y, hx, hy, rfl⟩ := zip_get hd
      obtain ⟨v, hv, rv⟩ := (k U m' st' sa').2.get hx
      obtain ⟨v2, hv2, rv2⟩ := (k2 U m' st' sa').2.get hy
      refine ⟨⟨xs, ys, v, v2, (k U m' st' sa').1, (k2 U m' st' sa').1, hv, hv2⟩, fun y H' hy => ?_⟩
      obtain ⟨n, z, z2, rfl, hn, rfl, hz, hz2⟩ := hy
      have hz' := hz xs (k U m' st' sa').1
      have hz2' := hz2 ys (k2 U m' st' sa').1
      rw [hv] at hz'; cases hz'
      rw [hv2] at hz2'; cases hz2'
      have st2 := Stp.new sa' (o := .tup [v, v2]) hn
      exact ⟨U.new n _, rfl, st2, sa'.new hn, .tup (.inl (.inl upd_same)) (.cons (rv.stp st2) (.cons (rv2.stp st2) .nil))⟩
    · rw [List.length_zipWith, hr.len, hr2.len] at hl
      omega
  · obtain ⟨w, w2, rfl, hw, hw2⟩ := reps2 rd
    obtain ⟨a, xs, rfl, hr, k⟩ := frozenT sa1 hw
    obtain ⟨b, ys, rfl, hr2, k2⟩ := frozenT sa1 hw2
    refine ⟨a, b, xs, ys, rfl, .inr ⟨(k T m1 (Stp.refl T) sa1).1, (k2 T m1 (Stp.refl T) sa1).1, q _ T (Stp.refl T) sa1 fun U m' i st' sa' => ⟨fun d hd => ?_, fun hl => ⟨xs, ys, (k U m' st' sa').1, (k2 U m' st' sa').1, ?_⟩⟩⟩⟩
    · obtain ⟨x, y, hx, hy, rfl⟩ := zip_get hd
      obtain ⟨v, hv, rv⟩ := (k U m' st' sa').2.get hx
      obtain ⟨v2, hv2, rv2⟩ := (k2 U m' st' sa').2.get hy
      refine ⟨⟨xs, ys, v, v2, (k U m' st' sa').1, (k2 U m' st' sa').1, hv, hv2⟩, fun y H' hy => ?_⟩
      obtain ⟨n, z, z2, rfl, hn, rfl, hz, hz2⟩ := hy
      have hz' := hz xs (k U m' st' sa').1
      have hz2' := hz2 ys (k2 U m' st' sa').1
      rw [hv] at hz'; cases hz'
      rw [hv2] at hz2'; cases hz2'
      have st2 := Stp.new sa' (o := .tup [v, v2]) hn
      exact ⟨U.new n _, rfl, st2, sa'.new hn, .tup (.inl (.inl upd_same)) (.cons (rv.stp st2) (.cons (rv2.stp st2) .nil))⟩
    · rw [List.length_zipWith, hr.len, hr2.len] at hl
      omega
  · exact q.elim

/-! ### for -/
def dLoop (g : DG) (b : DS) : List D → En → Mu → RS
  | [], e, m => .nx e m
  | d :: ds, e, m => match g d e with
    | none => .stuck
    | some e1 => match b e1 m with
      | .nx e2 m2 => dLoop g b ds e2 m2
      | .ct e2 m2 => dLoop g b ds e2 m2
      | .bk e2 m2 => .nx e2 m2
      | .rt d m2 => .rt d m2
      | .exc C fs e2 m2 => .exc C fs e2 m2
      | .stuck => .stuck
def dFor (t : DA) (g : DG) (b : DS) : DS := fun e m => match t e m with
  | .ok ds m1 => dLoop g b ds e m1
  | .exc C fs m1 => .exc C fs e m1
  | .stuck => .stuck
theorem pds_for {iter : Expr} {body : List Stmt} {g : DG} {u : DS} {sl : List Nat} (hi : PDI X tg iter t) (hg : PDG X tg g sl) (hb : PDSs X body u) (hc : X.calm = true) (hp : PassesOwn (model X.prog X.w) X.A X.env X.xe)
    (hs : ∀ x, foldedSetIterable iter X.env x = pure x := by intro _; rfl) : PDS X (.For tg iter body [] pos) (dFor t g u) := by
  refine ps_of (ps_for hp hc (mxI X tg iter) (mxG X tg) (mxSs X body) hs) fun S r m σ N sa re p => hi S r m σ _ sa re ?_
  unfold dFor at p
  cases q : t r m with
  | stuck => rw [q] at p; exact p
  | exc C fs m1 => rw [q] at p; exact fun dd vs T st hn sa1 h1 h2 => p dd vs σ T st hn sa1 (re.stp st) h1 h2
  | ok ds m1 =>
    rw [q] at p
    intro J T st sa1 hJ
    refine ⟨fun i n σ' H' => n = ds.length - i ∧ i ≤ ds.length ∧ ∃ (U : Wd) (e : En) (m' : Mu), U.H = H' ∧ Stp T U ∧ Sta X.K U m' ∧ RelE X.K U e σ' ∧ PostS X.K U (dLoop g u (ds.drop i) e m') N (Fly X),
      ⟨ds.length, by simp, Nat.zero_le _, T, r, m1, rfl, Stp.refl T, sa1, re.stp st, PostS.step st p⟩, ?_⟩
    rintro i n σ' H' ⟨rfl, hi', U, e, m', rfl, stU, saU, reU, pU⟩
    by_cases hlt : i < ds.length
    · refine .inr ⟨((hJ U m' i stU saU).1 _ (List.getElem?_eq_getElem hlt)).1, fun σ2 H2 => i + 1 ≤ ds.length ∧ ∃ (U2 : Wd) (e2 : En) (m2 : Mu), U2.H = H2 ∧ Stp T U2 ∧ Sta X.K U2 m2 ∧ RelE X.K U2 e2 σ2 ∧ PostS X.K U2 (dLoop g u (ds.drop (i + 1)) e2 m2) N (Fly X),
        fun σ2 H2 h2 => ⟨ds.length - (i + 1), by omega, rfl, h2.1, h2.2⟩, fun x H2 hy => ?_⟩
      obtain ⟨Y, rfl, stY, saY, rdY⟩ := ((hJ U m' i stU saU).1 _ (List.getElem?_eq_getElem hlt)).2 x H2 hy
      rw [List.drop_eq_getElem_cons hlt] at pU
      have pY := PostS.step stY pU
      unfold dLoop at pY
      cases qg : g ds[i] e with
      | none => rw [qg] at pY; exact pY.elim
      | some e1 =>
        rw [qg] at pY
        refine hg Y e m' σ' ds[i] x e1 _ saY (reU.stp stY) rdY qg fun σ1 re1 _ => hb Y e1 m' σ1 _ saY re1 ?_
        have stT := stU.trans stY
        dsimp only at pY
        cases qb : u e1 m' with
        | stuck => rw [qb] at pY; exact pY.elim
        | nx e2 m2 => rw [qb] at pY; exact fun σ2 Z stZ saZ reZ => ⟨hlt, Z, e2, m2, rfl, stT.trans stZ, saZ, reZ, PostS.step stZ pY⟩
        | ct e2 m2 => rw [qb] at pY; exact fun σ2 Z stZ saZ reZ => ⟨hlt, Z, e2, m2, rfl, stT.trans stZ, saZ, reZ, PostS.step stZ pY⟩
        | bk e2 m2 => rw [qb] at pY; exact pY
        | rt d m2 => rw [qb] at pY; exact pY
        | exc C fs e2 m2 => rw [qb] at pY; exact pY
    · have e : i = ds.length := by omega
      subst e
      rw [List.drop_length] at pU
      exact .inl ⟨(hJ U m' _ stU saU).2 (Nat.le_refl _), pU σ' U (Stp.refl U) saU reU⟩

/-! ### while -/
def whileF (c : DT) (b : DS) : Nat → En → Mu → RS
  | 0, _, _ => .stuck
  | n + 1, e, m => match c e m with
    | .stuck => .stuck
    | .exc C fs m1 => .exc C fs e m1
    | .ok false m1 => .nx e m1
    | .ok true m1 => match b e m1 with
      | .nx e2 m2 => whileF c b n e2 m2
      | .ct e2 m2 => whileF c b n e2 m2
      | .bk e2 m2 => .nx e2 m2
      | .rt d m2 => .rt d m2
      | .exc C fs e2 m2 => .exc C fs e2 m2
      | .stuck => .stuck
open Classical in
noncomputable def dWhile (c : DT) (b : DS) : DS := fun e m => if h : ∃ n, whileF c b n e m ≠ .stuck then whileF c b h.choose e m else .stuck
theorem whileF_more (c : DT) (b : DS) : ∀ (n k : Nat) (e : En) (m : Mu), whileF c b n e m ≠ .stuck → whileF c b (n + k) e m = whileF c b n e m
  | 0, _, _, _, h => absurd rfl h
  | n + 1, k, e, m, h => by
    rw [show n + 1 + k = (n + k) + 1 by omega]
    unfold whileF at h ⊢
    cases qc : c e m with
    | stuck => rfl
    | exc C fs m1 => rfl
    | ok v m1 =>
      rw [qc] at h
      cases v with
      | false => rfl
      | true =>
        dsimp only at h ⊢
        cases qb : b e m1 with
        | nx e2 m2 => rw [qb] at h; exact whileF_more c b n k e2 m2 h
        | ct e2 m2 => rw [qb] at h; exact whileF_more c b n k e2 m2 h
        | _ => rfl
theorem dWhile_eq {c : DT} {b : DS} {n : Nat} {e : En} {m : Mu} {r : RS} (h : whileF c b n e m = r) (hr : r ≠ .stuck) : dWhile c b e m = r := by
  have hex : ∃ n, whileF c b n e m ≠ .stuck := ⟨n, by rw [h]; exact hr⟩
  unfold dWhile
  rw [dif_pos hex]
  have hc := hex.choose_spec
  have h1 := whileF_more c b n hex.choose e m (by rw [h]; exact hr)
  have h2 := whileF_more c b hex.choose n e m hc
  rw [Nat.add_comm] at h2
  rw [← h, ← h1, h2]
theorem pds_while {c : Expr} {body : List Stmt} {v : DT} {u : DS} (hv : PDT X c v) (hb : PDSs X body u) (hp : PassesOwn (model X.prog X.w) X.A X.env X.xe) : PDS X (.While c body [] pos) (dWhile v u) := by
  refine ps_of (ps_while hp (mxT X c) (mxSs X body)) fun S r m σ N sa re p => ?_
  unfold dWhile at p
  split at p
  · rename_i hex
    generalize hex.choose = n at p
    refine ⟨fun n σ' H' => ∃ (U : Wd) (e : En) (m' : Mu), U.H = H' ∧ Sta X.K U m' ∧ RelE X.K U e σ' ∧ PostS X.K U (whileF v u n e m') N (Fly X), ⟨n, S, r, m, rfl, sa, re, p⟩, ?_⟩
    rintro n σ' H' ⟨U, e, m', rfl, saU, reU, pU⟩
    cases n with
    | zero => exact (show False from pU).elim
    | succ n =>
      refine hv U e m' σ' _ saU reU ?_
      unfold whileF at pU
      cases qc : v e m' with
      | stuck => rw [qc] at pU; exact pU.elim
      | exc C fs m1 => rw [qc] at pU; exact fun dd vs T st hn sa1 h1 h2 => pU dd vs σ' T st hn sa1 (reU.stp st) h1 h2
      | ok k m1 =>
        rw [qc] at pU
        intro k' T st sa1 hk
        cases (show k = k' from hk)
        have pT := PostS.step st pU
        cases k with
        | false => exact iteF (pT σ' T (Stp.refl T) sa1 (reU.stp st))
        | true =>
          refine iteT ⟨fun σ2 H2 => ∃ (U : Wd) (e : En) (m' : Mu), U.H = H2 ∧ Sta X.K U m' ∧ RelE X.K U e σ2 ∧ PostS X.K U (whileF v u n e m') N (Fly X), fun σ2 H2 h2 => ⟨n, Nat.lt_succ_self n, h2⟩, ?_⟩
          refine hb T e m1 σ' _ sa1 (reU.stp st) ?_
          dsimp only at pT
          cases qb : u e m1 with
          | stuck => rw [qb] at pT; exact pT.elim
          | nx e2 m2 => rw [qb] at pT; exact fun σ2 Z stZ saZ reZ => ⟨Z, e2, m2, rfl, saZ, reZ, PostS.step stZ pT⟩
          | ct e2 m2 => rw [qb] at pT; exact fun σ2 Z stZ saZ reZ => ⟨Z, e2, m2, rfl, saZ, reZ, PostS.step stZ pT⟩
          | bk e2 m2 => rw [qb] at pT; exact pT
          | rt d m2 => rw [qb] at pT; exact pT
          | exc C fs e2 m2 => rw [qb] at pT; exact pT
  · exact p.elim

/-! ### comprehensions -/
def dCompL (g : DG) (c : DT) (b : DE) (e : En) : List D → Mu → List D → Res (List D)
  | [], m, acc => .ok acc m
  | d :: ds, m, acc => match g d e with
    | none => .stuck
    | some e1 => match c e1 m with
      | .ok true m1 => match b e1 m1 with
        | .ok x m2 => if acc.length < sizeLine then dCompL g c b e ds m2 (acc ++ [x]) else .stuck
        | _ => .stuck
      | .ok false m1 => dCompL g c b e ds m1 acc
      | _ => .stuck
def dComp (t : DA) (g : DG) (c : DT) (b : DE) (own : List Nat) : DE := fun e m => (t e m).bind fun ds m1 => (dCompL g c b (wipeE e own) ds m1 []).bind fun xs m2 => .ok (.lst xs) m2
def dYes : DT := fun _ m => .ok true m
def WTs (X : Cx) (ifs : List Expr) : TT := fun σ H Q => ∀ (pins : List (Addr × Obj)) (s : Shared), Inv X pins σ H s → wpAny (model X.prog X.w) X.A (forIn ifs true fun c r => if r = true then do let ok ← isTrue c X.env (eval c X.env); pure (ForInStep.yield ok) else pure (ForInStep.yield r)) (TP X pins σ Q) X.xe s
theorem mxTs (X : Cx) (ifs : List Expr) : PTs X ifs (WTs X ifs) := ⟨fun pins s σ H Q I h => h pins s I⟩
def PDTs (X : Cx) (ifs : List Expr) (t : DT) : Prop := ∀ S r m σ Q, Sta X.K S m → RelE X.K S r σ → PostB X.K S (t r m) Q (fun c d H => Fly X c d σ H) → WTs X ifs σ S.H Q
theorem pdts_nil : PDTs X [] dYes := fun S r m σ Q sa re p pins s I => (pts_nil (X := X)).run pins s σ S.H Q I (Post.ok p (Stp.refl S) sa rfl)
theorem pdts_one {c : Expr} {t : DT} (h : PDT X c t) : PDTs X [c] t := fun S r m σ Q sa re p pins s I => (pts_one (mxT X c)).run pins s σ S.H Q I (h S r m σ Q sa re p)
end
end DL

namespace DL
open PySem PySem.Spec PyProof.Rows L2
variable [LamTab]
section
variable {K : PySem.W.Frag} {S T U Y : Wd}
theorem Stp.hid (st : Stp T Y) {p : Addr} {o : HO} (h : T.H p = none) : Stp T (Y.put p o) := ⟨st.pre, st.ext, fun a u hn h1 h2 h3 => by
  have ne : a ≠ p := ne_of_none h1 h
  obtain ⟨k1, k2, k3⟩ := st.frame a u hn h1 h2 h3
  exact ⟨by show upd Y.H p o a = _; rw [upd_ne ne]; exact k1, k2, k3⟩, fun a z => st.old a (upd_none z)⟩
theorem Stp.kept (st : Stp T Y) {p : Addr} {o : HO} (h : T.H p = none) (hf : Y.F p = none) : Stp T (Y.keep p o) := ⟨st.pre, st.ext.trans (Ext.updNew hf), fun a u hn h1 h2 h3 => by
  have ne : a ≠ p := ne_of_none h1 h
  obtain ⟨k1, k2, k3⟩ := st.frame a u hn h1 h2 h3
  exact ⟨k1, by show upd Y.F p o a = _; rw [upd_ne ne]; exact k2, k3⟩, st.old⟩
end
theorem wipe_none {σ : L2.St} : ∀ {vs : List Nat} {i : Nat}, i ∈ vs → i < σ.length → (wipe σ vs)[i]? = some none
  | v :: vs, i, h, hl => by
    unfold wipe
    by_cases hv : v = i
    · subst hv
      rw [List.getElem?_set_self (by rw [wipe_length]; exact hl)]
    · rw [List.getElem?_set_ne hv]
      rcases List.mem_cons.mp h with e | h
      · exact absurd e.symm hv
      · exact wipe_none h hl
theorem wipe_idem {σ : L2.St} : ∀ {vs : List Nat}, (∀ i ∈ vs, σ[i]? = none ∨ σ[i]? = some none) → wipe σ vs = σ
  | [], _ => rfl
  | v :: vs, h => by
    unfold wipe
    rw [wipe_idem (fun i hi => h i (List.mem_cons_of_mem _ hi))]
    apply List.ext_getElem?
    intro j
    by_cases hj : v = j
    · subst hj
      rcases h v List.mem_cons_self with e | e
      · rw [List.getElem?_eq_none (by rw [List.length_set]; exact List.getElem?_eq_none_iff.mp e), e]
      · rw [List.getElem?_set_self (List.getElem?_eq_some_iff.mp e).1, e]
    · rw [List.getElem?_set_ne hj]
theorem wipe_wipe (σ : L2.St) (vs : List Nat) : wipe (wipe σ vs) vs = wipe σ vs := wipe_idem fun i hi => by
  by_cases hl : i < σ.length
  · exact .inr (wipe_none hi hl)
  · exact .inl (List.getElem?_eq_none (by rw [wipe_length]; omega))
section
variable {X : Cx}
/-- a block's context -/
abbrev Bk (X : Cx) (scope : Scope) (s : Shared) (H : Hp) (C : Addr) (cl : List (Str × Addr)) (fp : List Addr) : Cx := X.blk s H scope (compEnvC scope cl C X.env) fp
abbrev bG (X : Cx) (scope : Scope) (tg : Expr) : TG := fun v σ H Q => ∀ s0 H0 C cl fp, WG (Bk X scope s0 H0 C cl fp) tg v σ H Q
abbrev bT (X : Cx) (scope : Scope) (ifs : List Expr) : TT := fun σ H Q => ∀ s0 H0 C cl fp, WTs (Bk X scope s0 H0 C cl fp) ifs σ H Q
abbrev bE (X : Cx) (scope : Scope) (elt : Expr) : TE := fun σ H Q => ∀ s0 H0 C cl fp, WE (Bk X scope s0 H0 C cl fp) elt σ H Q
variable {elt tg iter : Expr} {ifs : List Expr} {scope : Scope} {own : List (Str × Nat)} {pos spos : Pos} {t : DA} {g : DG} {c : DT} {b : DE} {sl : List Nat}
theorem lc_go {σ : L2.St} {S : Wd} {r : En} {m : Mu} {Q : VK} (hi : PDI X tg iter t)
    (hg : ∀ s H C cl fp, PDG (Bk X scope s H C cl fp) tg g sl) (ht : ∀ s H C cl fp, PDTs (Bk X scope s H C cl fp) ifs c) (he : ∀ s H C cl fp, PDE (Bk X scope s H C cl fp) elt b)
    (hsl : ∀ i ∈ sl, i ∈ own.map (·.2))
    (sa : Sta X.K S m) (re : RelE X.K S r σ) (p : PostD X.K S (dComp t g c b (own.map (·.2)) r m) Q (fun c d H => Fly X c d σ H)) :
    tLc (WI X tg iter) (bG X scope tg) (bT X scope ifs) (bE X scope elt) (own.map (·.2)) σ S.H Q := by
  refine hi S r m σ _ sa re ?_
  unfold dComp at p
  cases q : t r m with
  | stuck => rw [q] at p; exact p
  | exc C fs m1 => rw [q] at p; exact p
  | ok ds m1 =>
    rw [q] at p
    intro J T st sa1 hJ Dd hD
    have pT : PostD X.K T ((dCompL g c b (wipeE r (own.map (·.2))) ds m1 []).bind fun xs m2 => Res.ok (D.lst xs) m2) Q (fun c d H => Fly X c d σ H) := Post.step st p
    have reW : RelE X.K T (wipeE r (own.map (·.2))) (wipe σ (own.map (·.2))) := (re.stp st).wipe _
    have f0 := sa1.fresh hD
    refine ⟨fun i n H' => n = ds.length - i ∧ i ≤ ds.length ∧ ∃ (U : Wd) (m' : Mu) (acc : List D) (av : List V), U.H = H' ∧ Stp T U ∧ Sta X.K U m' ∧ U.H Dd = some (.lst av) ∧ U.F Dd = none ∧ Dd ∉ U.i ∧ Reps X.K U.i U.F acc av ∧
        PostD X.K T ((dCompL g c b (wipeE r (own.map (·.2))) (ds.drop i) m' acc).bind fun xs m2 => Res.ok (D.lst xs) m2) Q (fun c d H => Fly X c d σ H),
      ⟨ds.length, by simp, Nat.zero_le _, T.put Dd (.lst []), m1, [], [], rfl, (Stp.refl T).hid hD, sa1.hid f0.1 f0.2 (by rw [hD]; exact nofun), upd_same, f0.1, f0.2, .nil, pT⟩, ?_⟩
    rintro i n H' ⟨rfl, hi', U, m', acc, av, rfl, stU, saU, hU1, hU2, hU3, rA, pU⟩
    by_cases hlt : i < ds.length
    · refine .inr ⟨((hJ U m' i stU saU).1 _ (List.getElem?_eq_getElem hlt)).1, fun H2 => i + 1 ≤ ds.length ∧ ∃ (U : Wd) (m' : Mu) (acc : List D) (av : List V), U.H = H2 ∧ Stp T U ∧ Sta X.K U m' ∧ U.H Dd = some (.lst av) ∧ U.F Dd = none ∧ Dd ∉ U.i ∧ Reps X.K U.i U.F acc av ∧
        PostD X.K T ((dCompL g c b (wipeE r (own.map (·.2))) (ds.drop (i + 1)) m' acc).bind fun xs m2 => Res.ok (D.lst xs) m2) Q (fun c d H => Fly X c d σ H),
        fun H2 h2 => ⟨ds.length - (i + 1), by omega, rfl, h2.1, h2.2⟩, fun x H2 hy => ?_⟩
      obtain ⟨Y, rfl, stY, saY, rdY⟩ := ((hJ U m' i stU saU).1 _ (List.getElem?_eq_getElem hlt)).2 x H2 hy
      obtain ⟨y1, y2, y3⟩ := stY.frame Dd _ (by exact nofun) hU1 hU2 hU3
      rw [List.drop_eq_getElem_cons hlt] at pU
      unfold dCompL at pU
      have stT := stU.trans stY
      cases qg : g ds[i] (wipeE r (own.map (·.2))) with
      | none => rw [qg] at pU; exact (show False from pU).elim
      | some e1 =>
        rw [qg] at pU
        dsimp only at pU
        intro s0 H0 C0 cl0 fp0
        refine hg s0 H0 C0 cl0 fp0 Y (wipeE r (own.map (·.2))) m' (wipe σ (own.map (·.2))) ds[i] x e1 _ saY (reW.stp stT) rdY qg ?_
        intro σ1 re1 bs
        refine ⟨?_, ?_⟩
        · rw [bs _ hsl]
          exact wipe_wipe _ _
        intro s0 H0 C0 cl0 fp0
        cases qc : c e1 m' with
        | stuck => rw [qc] at pU; exact (show False from pU).elim
        | exc C fs m2 => rw [qc] at pU; exact (show False from pU).elim
        | ok k m2 =>
          rw [qc] at pU
          refine ht s0 H0 C0 cl0 fp0 Y e1 m' σ1 _ saY re1 ?_
          rw [qc]
          intro k' Z stZ saZ hk
          cases (show k = k' from hk)
          obtain ⟨z1, z2, z3⟩ := stZ.frame Dd _ (by exact nofun) y1 y2 y3
          cases k with
          | false =>
            exact iteF ⟨hlt, Z, m2, acc, av, rfl, stT.trans stZ, saZ, z1, z2, z3, (rA.stp stY).stp stZ, pU⟩
          | true =>
            refine iteT ?_
            intro s0 H0 C0 cl0 fp0
            dsimp only at pU
            cases qb : b e1 m2 with
            | stuck => rw [qb] at pU; exact (show False from pU).elim
            | exc C fs m3 => rw [qb] at pU; exact (show False from pU).elim
            | ok dx m3 =>
              rw [qb] at pU
              refine he s0 H0 C0 cl0 fp0 Z e1 m2 σ1 _ saZ (re1.stp stZ) ?_
              rw [qb]
              intro vx V1 stV saV rx
              obtain ⟨w1, w2, w3⟩ := stV.frame Dd _ (by exact nofun) z1 z2 z3
              dsimp only at pU
              split at pU
              · rename_i hlen
                refine ⟨av, w1, by rw [← rA.len]; exact hlen, hlt, V1.put Dd (.lst (av ++ [vx])), m3, acc ++ [dx], av ++ [vx], rfl, ((stT.trans stZ).trans stV).hid hD, saV.hid w2 w3 (by rw [w1]; exact nofun), upd_same, w2, w3, ((((rA.stp stY).stp stZ).stp stV)).append (.cons rx .nil), pU⟩
              · exact (show False from pU).elim
    · have e : i = ds.length := by omega
      subst e
      rw [List.drop_length] at pU
      refine .inl ⟨(hJ U m' _ stU saU).2 (Nat.le_refl _), ?_⟩
      have pU : PostD X.K T (Res.ok (D.lst acc) m') Q (fun c d H => Fly X c d σ H) := pU
      exact pU (.ref Dd) (U.keep Dd (.lst av)) (stU.kept hD hU2) (saU.keep hU1 hU2 hU3 (by exact nofun)) (.lst (.inl (.inl upd_same)) (rA.mono (List.prefix_refl _) (Ext.updNew hU2)))
theorem pd_lc (hi : PDI X tg iter t) (hN : X.N.Nodup) (ok : BlkOk X.N X.env.scope scope own)
    (hg : ∀ s H C cl fp, PDG (Bk X scope s H C cl fp) tg g sl) (ht : ∀ s H C cl fp, PDTs (Bk X scope s H C cl fp) ifs c) (he : ∀ s H C cl fp, PDE (Bk X scope s H C cl fp) elt b)
    (hc : X.calm = true) (hsl : ∀ i ∈ sl, i ∈ own.map (·.2) := by decide) (hs : ∀ x, foldedSetIterable iter X.env x = pure x := by intro _; rfl) :
    PDE X (.ListComp elt [⟨tg, iter, ifs, 0⟩] scope pos) (dComp t g c b (own.map (·.2))) :=
  pd_of (pe_lc (g := bG X scope tg) (tt := bT X scope ifs) (te := bE X scope elt) hc hN (mxI X tg iter) ok (fun s H C cl fp => ⟨fun pins s1 σ H1 v u Q I r h => h s H C cl fp pins s1 u I r⟩) (fun s H C cl fp => ⟨fun pins s1 σ H1 Q I h => h s H C cl fp pins s1 I⟩) (fun s H C cl fp => ⟨fun pins s1 σ H1 Q I h => h s H C cl fp pins s1 I⟩) hs)
    fun S r m σ Q sa re p => lc_go hi hg ht he hsl sa re p
theorem pds_setLc {i : Nat} {y : Str} {py : Pos} (hi : PDI X tg iter t) (hN : X.N.Nodup) (ok : BlkOk X.N X.env.scope scope own)
    (hg : ∀ s H C cl fp, PDG (Bk X scope s H C cl fp) tg g sl) (ht : ∀ s H C cl fp, PDTs (Bk X scope s H C cl fp) ifs c) (he : ∀ s H C cl fp, PDE (Bk X scope s H C cl fp) elt b)
    (hc : X.calm = true) (hsw : swapsWith (.ListComp elt [⟨tg, iter, ifs, 0⟩] scope pos) (some (.Name y py)) spos.line X.env = pure true) (hsl : ∀ i ∈ sl, i ∈ own.map (·.2) := by decide) (hy : X.N[i]? = some y := by rfl) (hyl : X.env.scope.names.lookup y = some .local := by rfl) (hs : ∀ x, foldedSetIterable iter X.env x = pure x := by intro _; rfl) :
    PDS X (.Assign [.Name y py] (.ListComp elt [⟨tg, iter, ifs, 0⟩] scope pos) spos) (dSet i (dComp t g c b (own.map (·.2)))) := by
  refine ps_of (ps_setLc (g := bG X scope tg) (tt := bT X scope ifs) (te := bE X scope elt) hc hN hy hyl hsw (mxI X tg iter) ok (fun s H C cl fp => ⟨fun pins s1 σ H1 v u Q I r h => h s H C cl fp pins s1 u I r⟩) (fun s H C cl fp => ⟨fun pins s1 σ H1 Q I h => h s H C cl fp pins s1 I⟩) (fun s H C cl fp => ⟨fun pins s1 σ H1 Q I h => h s H C cl fp pins s1 I⟩) hs) fun S r m σ N sa re p => ?_
  exact lc_go hi hg ht he hsl sa re (PDE.stm re p fun d m1 v T st sa1 rd q => q _ T (Stp.refl T) sa1 ((re.stp st).set i rd))

/-! ### stores -/
variable {a e o : Expr} {es : List Expr} {ta tb to : DE}
/-- xs[i] = v, xs of the store -/
def dPutI (tv to ti : DE) : DS := fun e m => rsOf e (tv e m) fun v m1 => rsOf e (to e m1) fun o m2 => rsOf e (ti e m2) fun i m3 => match o, i with
  | .loc n, .int k => match m3[n]? with
    | some (.lst ds) => match ixN ds.length k with
      | some j => .nx e (m3.set n (.lst (ds.set j v)))
      | none => .stuck
    | _ => .stuck
  | _, _ => .stuck
theorem rsOf_bind {e : En} {r : Res D} {k : D → Mu → RS} {N : Ends} {S : Wd} {σ : L2.St} (re : RelE X.K S e σ) (p : PostS X.K S (rsOf e r k) N (Fly X)) {Q : VK}
    (h : ∀ d m v T, Stp S T → Sta X.K T m → Rep X.K T.i T.F d v → PostS X.K T (k d m) N (Fly X) → Q v T.H) : PostD X.K S r Q (fun c d H => Fly X c d σ H) := PDE.stm re p h
theorem pds_putI {tpos : Pos} {i : Expr} {ti : DE} (hv : PDE X a ta) (ho : PDE X o to) (hi : PDE X i ti) (hs : swapsWithSole [.Subscript o i tpos] a pos.line X.env = pure false := by rfl) (hw : swappedStores [.Subscript o i tpos] a X.env = pure none := by rfl)
    (h1 : (assignEach [.Subscript o i tpos] X.env).map (·.2) = [assign (.Subscript o i tpos) X.env] := by rfl)
    (ha : ∀ v, assign (.Subscript o i tpos) X.env v = (do
      let ov ← holding [v] (eval o X.env)
      let iv ← holding [v, ov] (eval i X.env)
      standAt tpos
      holding [v, ov, iv] (setItem ov iv v)
      release [v, ov, iv] []) := by intro _; rfl) : PDS X (.Assign [.Subscript o i tpos] a pos) (dPutI ta to ti) := by
  refine ps_of (ps_asg (mxE X a) (pg_sub (mxE X o) (mxE X i) set_list ha) hs hw h1) fun S r m σ N sa re p => ?_
  refine hv S r m σ _ sa re (PDE.stm re p fun v m1 vv T st sa1 rv q => ?_)
  refine ho T r m1 σ _ sa1 (re.stp st) (PDE.stm (re.stp st) q fun d m2 vo U st2 sa2 ro q2 => ?_)
  refine hi U r m2 σ _ sa2 ((re.stp st).stp st2) (PDE.stm ((re.stp st).stp st2) q2 fun ii m3 vi Y st3 sa3 ri q3 => ?_)
  split at q3
  · rename_i n k
    cases ri
    split at q3
    · rename_i ds e1
      split at q3
      · rename_i j ej
        cases (ro.stp st3) with
        | loc hn =>
          obtain ⟨xs, h1, h2⟩ := sa3.ok n _ _ hn e1
          refine ⟨_, xs, k, j, rfl, rfl, h1, by rw [← h2.len]; exact ej, ?_⟩
          obtain ⟨stZ, saZ⟩ := sa3.put (o := .lst (xs.set j vv)) (q := .lst (ds.set j v)) hn ⟨_, upd_same, Reps.set ((rv.stp st2).stp st3) j h2⟩
          exact q3 σ _ stZ saZ ((((re.stp st).stp st2).stp st3).stp stZ)
      · exact q3.elim
    · exact q3.elim
  · exact q3.elim
/-- o.f = v, o an instance of the store of one of these classes -/
def dPutF (Cs : List Addr) (f : Str) (tv to : DE) : DS := fun e m => rsOf e (tv e m) fun v m1 => rsOf e (to e m1) fun o m2 => match o with
  | .loc n => match m2[n]? with
    | some (.ins C fs) => if C ∈ Cs ∧ fs.length < 1000 then .nx e (m2.set n (.ins C (putD f v fs))) else .stuck
    | _ => .stuck
  | _ => .stuck
theorem put_reps {K : PySem.W.Frag} {ι : List Addr} {F : Hp} {f : Str} {d : D} {v : V} (h : Rep K ι F d v) : ∀ {fs : List (Str × D)} {vs : List (Str × V)}, RepF K ι F fs vs → RepF K ι F (putD f d fs) (putF f v vs)
  | _, _, .nil => .cons h .nil
  | _, _, .cons (f := g) h1 r => by
    unfold putD putF
    split
    · exact .cons h r
    · exact .cons h1 (put_reps h r)
theorem pds_putF {f : Str} {pos' : Pos} {Cs : List Addr} (hv : PDE X a ta) (ho : PDE X o to) (hC : ∀ C ∈ Cs, Cls X.K C ∧ NoAttr X.K C f) (hs : swapsWith a (some (.Attribute o f pos')) pos.line X.env = pure false := by rfl) :
    PDS X (.Assign [.Attribute o f pos'] a pos) (dPutF Cs f ta to) := by
  refine ps_of (ps_fld (mxE X o) (mxE X a) hs) fun S r m σ N sa re p => ?_
  refine hv S r m σ _ sa re (PDE.stm re p fun v m1 vv T st sa1 rv q => ?_)
  refine ho T r m1 σ _ sa1 (re.stp st) (PDE.stm (re.stp st) q fun d m2 vo U st2 sa2 ro q2 => ?_)
  split at q2
  · rename_i n
    split at q2
    · rename_i C fs e1
      split at q2
      · rename_i hc
        cases ro with
        | loc hn =>
          obtain ⟨dx, vs, h1, h2⟩ := sa2.ok n _ _ hn e1
          obtain ⟨c1, c2⟩ := hC C hc.1
          refine ⟨_, C, dx, vs, rfl, h1, c1, c2, by rw [← h2.len]; exact hc.2, ?_⟩
          obtain ⟨stZ, saZ⟩ := sa2.put (o := .ins C dx (putF f vv vs)) (q := .ins C (putD f v fs)) hn ⟨dx, _, upd_same, put_reps (rv.stp st2) h2⟩
          exact q2 σ _ stZ saZ (((re.stp st).stp st2).stp stZ)
      · exact q2.elim
    · exact q2.elim
  · exact q2.elim

/-! ### what was of the store is kept for good -/
end
mutual
def below (n : Nat) : D → Bool
  | .loc k => decide (k < n)
  | .tup ds => belows n ds
  | .lst ds => belows n ds
  | .obj _ ds => belows n ds
  | .xob _ _ => false
  | .lam _ _ => false
  | .clo _ _ => false
  | _ => true
def belows (n : Nat) : List D → Bool
  | [] => true
  | d :: ds => below n d && belows n ds
end
def Mo.below (n : Nat) : Mo → Bool
  | .lst ds => belows n ds
  | .ins _ fs => belows n (fs.map (·.2))
  | .exo _ none => true
  | .exo _ (some k) => decide (k < n)
  | .exd fs => belows n (fs.map (·.2))
  | .dik kvs => belows n (kvs.map (·.2))
  | .dit kvs => belows n (kvs.map (·.2))
/-- nothing of the store names what is not there -/
def Cl (m : Mu) : Prop := ∀ o ∈ m, o.below m.length = true
def Wd.cut (Z : Wd) (l : List Addr) : Wd := ⟨l, fun a => if a ∈ Z.i then (if a ∈ l then none else Z.H a) else Z.F a, Z.H⟩
section
variable {K : PySem.W.Frag} {T Z : Wd}
theorem cutF_out {a : Addr} {o : HO} {m : Mu} (sa : Sta K Z m) (h : Z.F a = some o) (l : List Addr) : (Z.cut l).F a = some o := by
  have : a ∉ Z.i := fun z => by rw [sa.dis a z] at h; cases h
  show (if a ∈ Z.i then _ else Z.F a) = some o
  rw [if_neg this]; exact h
mutual
theorem Rep.cut {m : Mu} (sa : Sta K Z m) {l : List Addr} (hl : l <+: Z.i) : ∀ {d : D} {v : V}, Rep K Z.i Z.F d v → below l.length d = true → Rep K l (Z.cut l).F d v
  | _, _, .non, _ => .non
  | _, _, .bl b, _ => .bl b
  | _, _, .int i, _ => .int i
  | _, _, .str x, _ => .str x
  | _, _, .tup h r, hb => .tup (SqT.ext' h fun a o e => cutF_out sa e l) (Reps.cut sa hl r (by unfold below at hb; exact hb))
  | _, _, .lst h r, hb => .lst (SqL.ext' h fun a o e => cutF_out sa e l) (Reps.cut sa hl r (by unfold below at hb; exact hb))
  | _, _, .obj h n r, hb => .obj (cutF_out sa h l) n (Reps.cut sa hl r (by unfold below at hb; exact hb))
  | _, _, .loc (n := k) h, hb => .loc (by
      unfold below at hb
      have hk : k < l.length := of_decide_eq_true hb
      obtain ⟨t, e⟩ := hl
      rw [← e, List.getElem?_append_left hk] at h
      exact h)
  | _, _, .val v, _ => .val v
  | _, _, .xob h n r, hb => by simp [below] at hb
  | _, _, .lam h, hb => by simp [below] at hb
  | _, _, .clo h h2 r, hb => by simp [below] at hb
theorem Reps.cut {m : Mu} (sa : Sta K Z m) {l : List Addr} (hl : l <+: Z.i) : ∀ {d : List D} {v : List V}, Reps K Z.i Z.F d v → belows l.length d = true → Reps K l (Z.cut l).F d v
  | _, _, .nil, _ => .nil
  | _, _, .cons h r, hb => by
    unfold belows at hb
    obtain ⟨h1, h2⟩ := Bool.and_eq_true_iff.mp hb
    exact .cons (Rep.cut sa hl h h1) (Reps.cut sa hl r h2)
end
theorem RepF.join : ∀ {fs : List (Str × D)} {vs : List (Str × V)} {i : List Addr} {F : Hp}, vs.map (·.1) = fs.map (·.1) → Reps K i F (fs.map (·.2)) (vs.map (·.2)) → RepF K i F fs vs
  | [], [], _, _, _, _ => .nil
  | [], _ :: _, _, _, h, _ => by simp at h
  | _ :: _, [], _, _, h, _ => by simp at h
  | (f, d) :: fs, (g, v) :: vs, _, _, h, r => by
    simp only [List.map_cons, List.cons.injEq] at h
    obtain ⟨rfl, h⟩ := h
    simp only [List.map_cons] at r
    cases r with
    | cons h1 h2 => exact .cons h1 (RepF.join h h2)
theorem cut_ok {mT m : Mu} (saT : Sta K T mT) (st : Stp T Z) (sa : Sta K Z m) (hb : ∀ o ∈ m.take mT.length, o.below mT.length = true) : Stp T (Z.cut T.i) ∧ Sta K (Z.cut T.i) (m.take mT.length) := by
  have hpre := st.pre
  have hlen : mT.length ≤ m.length := by
    rw [← saT.len, ← sa.len]; exact hpre.length_le
  have sub : ∀ a, a ∈ T.i → a ∈ Z.i := fun a h => hpre.subset h
  refine ⟨⟨List.prefix_refl _, fun a o e => cutF_out sa (st.ext a o e) T.i, fun a o hn h1 h2 h3 => ?_, st.old⟩, saT.nd, ?_, fun a o e => ?_, fun a ha => ?_, fun a ha => sa.tr a (sub a ha), fun n a o h1 h2 => ?_, fun q hq => ?tb⟩
  case tb =>
    obtain ⟨ps, t1, t2, t3, t4, t5⟩ := sa.tb q hq
    exact ⟨ps, t1, by show (if q.1 ∈ Z.i then _ else Z.F q.1) = none; rw [if_neg t3]; exact t2, fun z => t3 (sub _ z), t4, fun pos cv hc => let ⟨c, c1, c2⟩ := t5 pos cv hc; ⟨c, c1, cutF_out sa c2 T.i⟩⟩
  · obtain ⟨k1, k2, k3⟩ := st.frame a o hn h1 h2 h3
    exact ⟨k1, by show (if a ∈ Z.i then _ else Z.F a) = none; rw [if_neg k3]; exact k2, h3⟩
  · show T.i.length = _
    rw [List.length_take, saT.len]
    omega
  · have e : (if a ∈ Z.i then (if a ∈ T.i then none else Z.H a) else Z.F a) = some o := e
    show Z.H a = some o
    split at e
    · split at e
      · cases e
      · exact e
    · exact sa.sub a o e
  · show (if a ∈ Z.i then (if a ∈ T.i then none else Z.H a) else Z.F a) = none
    have ha : a ∈ T.i := ha
    rw [if_pos (sub a ha), if_pos ha]
  · have h1 : T.i[n]? = some a := h1
    have h1' := pre_get hpre h1
    have hn : n < mT.length := by rw [← saT.len]; exact (List.getElem?_eq_some_iff.mp h1).1
    have h2' : m[n]? = some o := by
      rw [List.getElem?_take_of_lt hn] at h2; exact h2
    have hbo := hb o (List.mem_of_getElem? h2)
    have q := sa.ok n a o h1' h2'
    rw [← saT.len] at hbo
    cases o with
    | lst ds => obtain ⟨xs, q1, q2⟩ := q; exact ⟨xs, q1, q2.cut sa hpre hbo⟩
    | ins C fs => obtain ⟨dx, vs, q1, q2⟩ := q; exact ⟨dx, vs, q1, RepF.join q2.split.1 (q2.split.2.cut sa hpre hbo)⟩
    | exo C d =>
      cases d with
      | none => exact q
      | some k =>
        obtain ⟨dx, q1, q2⟩ := q
        have hk : k < T.i.length := of_decide_eq_true hbo
        refine ⟨dx, ?_, q2⟩
        obtain ⟨t, ht⟩ := hpre
        have q1' := q1
        rw [← ht, List.getElem?_append_left hk] at q1'
        exact q1'
    | exd fs => obtain ⟨vs, q1, q2⟩ := q; exact ⟨vs, q1, RepF.join q2.split.1 (q2.split.2.cut sa hpre hbo)⟩
    | dik kvs => obtain ⟨vs, q1, q0, q2⟩ := q; exact ⟨vs, q1, q0, q2.cut sa hpre hbo⟩
    | dit kvs => obtain ⟨vs, q1, q0, q2⟩ := q; exact ⟨vs, q1, q0, q2.cut sa hpre hbo⟩
/-- what a number of the store beyond the cut has become -/
theorem cut_at {mT m : Mu} (saT : Sta K T mT) (st : Stp T Z) (sa : Sta K Z m) {n : Nat} {a : Addr} (hn : mT.length ≤ n) (h : Z.i[n]? = some a) : (Z.cut T.i).F a = Z.H a := by
  have ha : a ∈ Z.i := List.mem_of_getElem? h
  have hna : a ∉ T.i := fun z => by
    obtain ⟨j, hj⟩ := List.getElem?_of_mem z
    have hj' := pre_get st.pre hj
    obtain ⟨l1, e1⟩ := List.getElem?_eq_some_iff.mp hj'
    obtain ⟨l2, e2⟩ := List.getElem?_eq_some_iff.mp h
    have := (List.getElem_inj sa.nd).mp (e1.trans e2.symm)
    have := (List.getElem?_eq_some_iff.mp hj).1
    rw [saT.len] at this
    omega
  show (if a ∈ Z.i then (if a ∈ T.i then none else Z.H a) else Z.F a) = Z.H a
  rw [if_pos ha, if_neg hna]
end
section
variable {X : Cx} {e o : Expr} {es : List Expr} {t : DA} {pos p : Pos} {x : Str} {k : Nat} {C : Addr} {G : DFn}
/-- C(..): a new instance that never changes behind its __init__ -/
structure KT (P : Program) (w : World) (K : PySem.W.Frag) (mg : Str → Option Value) (base : Heap) (k : Nat) (x : Str) (C : Addr) (G : DFn) : Prop where
  mgx : mg x = some (.ref C)
  ex : ∃ (f : Addr) (fd : FuncData) (ps : List Str) (dds : List D) (G0 : DFn), Mk K C f ∧ FnD P w K mg base k f fd ps G0 ∧ Bd K fd ps dds ∧ G = padF ps.length dds G0
open Classical in
noncomputable def mkObj (C : Addr) (m : Mu) (r : Res D) : Res D := match r with
  | .ok .non m2 => match m2[m.length]? with
    | some (.ins C' fs) => if C' = C ∧ m2 = m ++ [.ins C' fs] ∧ Cl m ∧ belows m.length (fs.map (·.2)) = true then .ok (.obj ⟨C, fs.map (·.1)⟩ (fs.map (·.2))) m else .stuck
    | _ => .stuck
  | .exc C' fs m2 => .exc C' fs m2
  | _ => .stuck
noncomputable def dMake (C : Addr) (G : DFn) (t : DA) : DE := fun e m => (t e m).bind fun ds m1 => mkObj C m1 (G (.loc m1.length :: ds) (m1 ++ [.ins C []]))
theorem run_mk {pins : List (Addr × Obj)} {σ : L2.St} {T : Wd} {m : Mu} {s : Shared} {Q : VK} {us : List Value} {vs : List V} {das : List D} (F : KT X.prog X.w X.K X.mg X.base k x C G) (hr : Room (k + 1) X.A)
    (I : Inv X pins σ T.H s) (sa : Sta X.K T m) (r : Reps X.K T.i T.F das vs) (rv : Vals vs us) (h : PostD X.K T (mkObj C m (G (.loc m.length :: das) (m ++ [.ins C []]))) Q (fun c d H => Fly X c d σ H)) :
    wpAny (model X.prog X.w) X.A (call (.ref C) us) (EP X pins σ Q) X.xe s := by
  obtain ⟨f, fd, ps, dds, G0, M, hf, hb, rfl⟩ := F.ex
  obtain ⟨dsv, dvs, hb1, hd1, hD⟩ := hb.ex
  -- the new instance and its dict
  have nx : T.H (s.heap.objs.size + 1) = none := I.hok.fresh (Nat.le_succ _)
  have ndx : T.H s.heap.objs.size = none := I.hok.fresh (Nat.le_refl _)
  have ne : s.heap.objs.size ≠ s.heap.objs.size + 1 := Nat.ne_of_lt (Nat.lt_succ_self _)
  have I2 := Inv.made (C := C) I
  have st1 := Stp.new sa (o := .own (s.heap.objs.size + 1)) ndx
  have sa1 := sa.new (o := .own (s.heap.objs.size + 1)) ndx
  have nx1 : (T.new s.heap.objs.size (.own (s.heap.objs.size + 1))).H (s.heap.objs.size + 1) = none := by
    show upd T.H _ _ _ = none
    rw [upd_ne ne.symm]; exact nx
  have st2 := Stp.tok sa1 (o := .ins C s.heap.objs.size []) nx1
  have sa2 := sa1.tok (o := .ins C s.heap.objs.size []) nx1 (q := .ins C []) ⟨s.heap.objs.size, [], upd_same, .nil⟩
  have st12 := st1.trans st2
  generalize hT2 : (T.new s.heap.objs.size (.own (s.heap.objs.size + 1))).tok (s.heap.objs.size + 1) (.ins C s.heap.objs.size []) = T2 at st2 sa2 st12
  have hH2 : T2.H = upd (upd T.H s.heap.objs.size (.own (s.heap.objs.size + 1))) (s.heap.objs.size + 1) (.ins C s.heap.objs.size []) := by rw [← hT2]; rfl
  have hi2 : T2.i = T.i ++ [s.heap.objs.size + 1] := by rw [← hT2]; rfl
  have hloc : T2.i[m.length]? = some (s.heap.objs.size + 1) := by
    rw [hi2, ← sa.len, List.getElem?_append_right (Nat.le_refl _), Nat.sub_self]; rfl
  have r1 : Reps X.K T2.i T2.F (.loc m.length :: (das ++ dds)) (V.ref (s.heap.objs.size + 1) :: (vs ++ dvs)) := .cons (.loc hloc) ((r.stp st12).append (hD _ _))
  have r2 : Vals (V.ref (s.heap.objs.size + 1) :: (vs ++ dvs)) (Value.ref (s.heap.objs.size + 1) :: (us ++ dsv)) := .cons rfl (rv.append hd1)
  unfold padF at h
  have hcons : D.loc m.length :: das ++ dds = D.loc m.length :: (das ++ dds) := rfl
  rw [hcons] at h
  split at h
  · rename_i hl
    have hlv : (V.ref (s.heap.objs.size + 1) :: (vs ++ dvs)).length = ps.length := by rw [← r1.len]; exact hl
    have hl2 : (Value.ref (s.heap.objs.size + 1) :: us ++ dsv).length = ps.length := by
      have e := r2.length
      rw [hlv] at e
      exact e.symm
    rw [← hH2] at I2
    have hsp : spD X.K ps.length G0 (V.ref (s.heap.objs.size + 1) :: (vs ++ dvs)) T2.H (fun v H2 => v = .non ∧ Q (.ref (s.heap.objs.size + 1)) H2) (fun c d H => Fly X c d σ H) := by
      refine ⟨hlv, T2, m ++ [.ins C []], _, rfl, sa2, r1, ?_⟩
      cases hG : G0 (D.loc m.length :: (das ++ dds)) (m ++ [.ins C []]) with
      | stuck => rw [hG] at h; exact (show False from h).elim
      | exc C' fs m2 =>
        rw [hG] at h
        exact fun dd vs' Z stZ hn saZ h1 h2 => h dd vs' Z (st12.trans stZ) (st12.old dd hn) saZ h1 h2
      | ok dv m2 =>
        rw [hG] at h
        intro v Z stZ saZ rdv
        unfold mkObj at h
        split at h
        · rename_i heq
          cases heq
          cases rdv
          refine ⟨rfl, ?_⟩
          split at h
          · rename_i C' fs e1
            split at h
            · rename_i hc
              obtain ⟨rfl, hm2, hcl, hbel⟩ := hc
              have hzi := pre_get stZ.pre hloc
              obtain ⟨dx, vv, q1, q2⟩ := saZ.ok _ _ _ hzi e1
              have htk : m2.take m.length = m := by rw [hm2]; simp
              have stTZ := st12.trans stZ
              obtain ⟨c1, c2⟩ := cut_ok sa stTZ saZ (by rw [htk]; exact hcl)
              rw [htk] at c2
              have hbel' : belows T.i.length (fs.map (·.2)) = true := by rw [sa.len]; exact hbel
              refine h (.ref (s.heap.objs.size + 1)) (Z.cut T.i) c1 c2 (.obj (dx := dx) (vs := vv) ?_ q2.split.1 (q2.split.2.cut saZ stTZ.pre hbel'))
              rw [cut_at sa stTZ saZ (Nat.le_refl _) hzi]
              exact q1
            · exact h.elim
          · exact h.elim
        · rename_i heq; cases heq
        · exact h.elim
    refine wpAny_call (make_map (f := f) I.kIn M.makes M.init (beq_iff_eq.mp M.fn) (codeAny_mono (hf.run _ X.stack _ _ ⟨Value.ref (s.heap.objs.size + 1) :: us, []⟩ (Value.ref (s.heap.objs.size + 1) :: (us ++ dsv)) _ _ _ (hr.make C us [])
      (I2.env0.make C us []) (hb1 _ (Value.ref (s.heap.objs.size + 1) :: us) I2.kIn hl2) r2 hsp) fun r s' hq' => ?_))
    cases r with
    | error e =>
      obtain ⟨a, B, sI, pins', σ', H', cls, d, e1, I', nb, up, sky, na, os, ag, e2, fl⟩ := XE.of_call I2 (W := fun c d σ' H => σ' = σ ∧ Fly X c d σ H) (fun cls d H' h => ⟨rfl, h⟩) hq'
      exact fl e s' ⟨a, B, sI, pins', σ', H', cls, d, e1, I', nb, up, sky, na, os, ag, rfl, rfl, e2, rfl⟩
    | ok fl =>
      cases fl with
      | ret u =>
        obtain ⟨v, H', I3, rv3, ev, q3⟩ := I2.after hq'
        subst ev
        exact ⟨rv3, ⟨V.ref (s.heap.objs.size + 1), H', I3, rfl, q3⟩⟩
      | next => exact False.elim hq'
      | brk => exact False.elim hq'
      | cont => exact False.elim hq'
  · exact (show False from h).elim
theorem pd_make (F : KT X.prog X.w X.K X.mg X.base k x C G) (hr : Room (k + 1) X.A) (ha : PDA X (e :: es) t)
    (hg : Gl X x := by rfl) (hdb : (x == ("__debug__" : Str)) = false := by decide) (he : starEach (e :: es) X.env = (false, eval e X.env) :: starEach es X.env := by exact se_cons _ _ _ rfl) (hpl : (backTo pos (starEach es X.env)).any (·.1) = false := by exact se_any _ _ _ rfl) :
    PDE X (.Call (.Name x p) (e :: es) [] pos) (dMake C G t) := by
  intro S r m σ Q sa re q pins s I
  refine wpAny_Call_Name_kw (ld_glob I hg F.mgx ?_ hdb)
  obtain ⟨_, _, _, _, _, M, _⟩ := F.ex
  refine PySem.W.callWith_K (h₀ := X.base) I.ok.mod.kin M.kp (thn (ha.run sa re q I pos) ?_) he hpl
  rintro us s1 ⟨xs, ds, m1, T, st, sa1, rds, rv, I1, q1⟩
  exact ⟨I1.kIn, run_mk F hr I1 sa1 rds rv q1⟩
end
end DL

namespace DL
open PySem PySem.Spec PyProof.Rows L2
variable [LamTab]
/-! ### isinstance -/
inductive Tg where
  | prim (n : String)
  | own (C : Addr)
  deriving DecidableEq
def Tg.val : Tg → Value
  | .prim n => .type n
  | .own C => .ref C
def tagOf (m : Mu) : D → Option Tg
  | .non => some (.prim "NoneType")
  | .bl _ => some (.prim "bool")
  | .int _ => some (.prim "int")
  | .str _ => some (.prim "str")
  | .tup _ => some (.prim "tuple")
  | .lst _ => some (.prim "list")
  | .obj c _ => some (.own c.a)
  | .loc n => match m[n]? with
    | some (.lst _) => some (.prim "list")
    | some (.ins C _) => some (.own C)
    | _ => none
  | _ => none
structure InsK (K : PySem.W.Frag) (C : Addr) : Prop where
  cl : Cls K C
  ha : PySem.W.findIn K (.ref C) "__class__" = some (some (.builtin "object.__class__"))
  hn : PySem.W.specialIn K (.builtin "object.__class__") "__get__" = some (some (.builtin "getset_descriptor.__get__"))
  htk : PySem.W.takesIn K (.builtin "object.__class__") = some true
  hm : PySem.W.mroIn K C (.type "object") = some true
/-- what a class answers by the tag: the built-in kinds, then own classes -/
structure Ans where
  prim : List String
  own : List (Addr × Bool)
def primNames : List String := ["NoneType", "bool", "int", "str", "tuple", "list"]
def Ans.get (A : Ans) : Tg → Option Bool
  | .prim n => if n ∈ primNames then some (decide (n ∈ A.prim)) else none
  | .own C => A.own.lookup C
structure AnsOk (K : PySem.W.Frag) (A : Ans) (us : List Value) : Prop where
  prim : ∀ n ∈ primNames, PySem.W.kitAny K (.type n) us = some (decide (n ∈ A.prim))
  own : ∀ p ∈ A.own, PySem.W.kitAny K (.ref p.1) us = some p.2 ∧ InsK K p.1
theorem lookup_mem {α : Type} {C : Addr} {b : α} : ∀ {l : List (Addr × α)}, l.lookup C = some b → (C, b) ∈ l
  | (D, x) :: r, h => by
    rw [List.lookup_cons] at h
    cases hb : C == D with
    | true =>
      rw [hb] at h
      cases h
      rw [beq_iff_eq.mp hb]; exact List.mem_cons_self
    | false => rw [hb] at h; exact List.mem_cons_of_mem _ (lookup_mem h)
theorem kitOne_any {K : PySem.W.Frag} {t u : Value} {b : Bool} (h : PySem.W.kitAny K t [u] = some b) : PySem.W.kitOne K t u = some b := by
  unfold PySem.W.kitAny at h
  cases q : PySem.W.kitOne K t u with
  | none => rw [q] at h; cases h
  | some c =>
    rw [q] at h
    cases c with
    | true => cases h; rfl
    | false => cases h; rfl
section
variable {K : PySem.W.Frag} {S : Wd} {m : Mu}
theorem SqT.tyx {H : Hp} {a : Addr} {xs : List V} (h : SqT K H a xs) : TyX K H (.ref a) (.type "tuple") := by
  rcases h with (h | ⟨o, h⟩) | ⟨o, its, n, h, hc, _⟩
  · exact .base (.tup h)
  · exact .fTuple h
  · exact .kTuple h hc
theorem SqL.tyx {H : Hp} {a : Addr} {xs : List V} (h : SqL K H a xs) : TyX K H (.ref a) (.type "list") := by
  rcases h with (h | ⟨o, h⟩) | ⟨o, its, n, h, hc, _⟩
  · exact .base (.lst h)
  · exact .base (.frz h)
  · exact .kList h hc
theorem tag_ok {A : Ans} {us : List Value} (hA : AnsOk K A us) {d : D} {v : V} {t : Tg} {b : Bool} (sa : Sta K S m) (r : Rep K S.i S.F d v) (ht : tagOf m d = some t) (hb : A.get t = some b) : ∃ ty, TyX K S.H v ty ∧ PySem.W.kitAny K ty us = some b := by
  have pr : ∀ {n : String}, Tg.prim n = t → PySem.W.kitAny K (.type n) us = some b := fun {n} e => by
    subst e
    unfold Ans.get at hb
    dsimp only at hb
    split at hb
    · rename_i hn
      cases hb
      exact hA.prim n hn
    · cases hb
  have ow : ∀ {C : Addr}, Tg.own C = t → PySem.W.kitAny K (.ref C) us = some b ∧ InsK K C := fun {C} e => by
    subst e
    exact hA.own (C, b) (lookup_mem hb)
  cases r with
  | non => cases ht; exact ⟨_, .base .non, pr rfl⟩
  | bl x => cases ht; exact ⟨_, .base (.bl x), pr rfl⟩
  | int x => cases ht; exact ⟨_, .base (.int x), pr rfl⟩
  | str x => cases ht; exact ⟨_, .base (.str x), pr rfl⟩
  | tup h1 h2 => cases ht; exact ⟨_, SqT.tyx (SqT.ext' h1 sa.sub), pr rfl⟩
  | lst h1 h2 => cases ht; exact ⟨_, SqL.tyx (SqL.ext' h1 sa.sub), pr rfl⟩
  | obj h1 h2 h3 =>
    cases ht
    obtain ⟨k1, k2⟩ := ow rfl
    exact ⟨_, .base (.ins (sa.sub _ _ h1) k2.cl k2.ha k2.hn k2.htk k2.hm), k1⟩
  | @loc n a h =>
    unfold tagOf at ht
    dsimp only at ht
    split at ht
    · rename_i ds e
      cases ht
      obtain ⟨xs, q1, q2⟩ := sa.ok n a _ h e
      exact ⟨_, .base (.lst q1), pr rfl⟩
    · rename_i C fs e
      cases ht
      obtain ⟨dx, vs, q1, q2⟩ := sa.ok n a _ h e
      obtain ⟨k1, k2⟩ := ow rfl
      exact ⟨_, .base (.ins q1 k2.cl k2.ha k2.hn k2.htk k2.hm), k1⟩
    · cases ht
  | val v => cases ht
  | xob h1 h2 h3 => cases ht
  | lam h => cases ht
  | clo h h2 h3 => cases ht
end
section
variable {X : Cx} {a e o c : Expr} {es : List Expr} {ta : DE} {t : DA} {pos p q : Pos} {x : Str}
/-- isinstance(a, C) -/
def dIsi (A : Ans) (ta : DE) : DE := fun e m => (ta e m).bind fun d m1 => match (tagOf m1 d).bind A.get with
  | some b => .ok (.bl b) m1
  | none => .stuck
theorem isi_fin {A : Ans} {us : List Value} (hA : AnsOk X.K A us) {d : D} {m : Mu} {T : Wd} {Q : VK} {W : XK} {v : V} (sa : Sta X.K T m) (rd : Rep X.K T.i T.F d v)
    (h : PostD X.K T (match (tagOf m d).bind A.get with
      | some b => .ok (.bl b) m
      | none => .stuck) Q W) : ∃ b ty, TyX X.K T.H v ty ∧ PySem.W.kitAny X.K ty us = some b ∧ ∀ Z, Stp T Z → Sta X.K Z m → Q (.bl b) Z.H := by
  cases q1 : tagOf m d with
  | none => rw [q1] at h; exact (show False from h).elim
  | some t =>
    rw [q1] at h
    cases q2 : A.get t with
    | none => rw [show (some t).bind A.get = A.get t from rfl, q2] at h; exact (show False from h).elim
    | some b =>
      rw [show (some t).bind A.get = A.get t from rfl, q2] at h
      obtain ⟨ty, k1, k2⟩ := tag_ok hA sa rd q1 q2
      exact ⟨b, ty, k1, k2, fun Z st sZ => h (.bl b) Z st sZ (.bl b)⟩
theorem pd_isi {A : Ans} {u : Value} {cv : V} (ha : PDE X a ta) (hcv : ClsV cv u) (hc : PDE X c (dC (.val cv))) (hA : AnsOk X.K A [u]) (hm : X.mg "isinstance" = none) (hg : Gl X "isinstance" := by rfl)
    (hs : starEach [a, c] X.env = (false, eval a X.env) :: starEach [c] X.env := by rfl) (hs2 : starEach [c] X.env = (false, eval c X.env) :: starEach [] X.env := by rfl) (hpl : (backTo pos (starEach [c] X.env)).any (·.1) = false := by rfl) :
    PDE X (.Call (.Name "isinstance" p) [a, c] [] pos) (dIsi A ta) := by
  refine pd_of (pe_callB call_isi hg hm (by decide +kernel) (pa_cons (mxE X a) (pa_cons (mxE X c) pa_nil hs2) hs) (by decide) (by decide) hs hpl) fun S r m σ Q sa re p => ?_
  refine ha S r m σ _ sa re (Post.bindI p fun d m1 v T st sa1 rd q => ?_)
  refine hc T r m1 σ _ sa1 (re.stp st) ?_
  intro w Z st2 sa2 rw
  cases rw
  obtain ⟨b, ty, k1, k2, k3⟩ := isi_fin hA sa2 (rd.stp st2) (Post.step st2 q)
  exact ⟨v, cv, ty, u, b, rfl, hcv, k1, kitOne_any k2, k3 Z (Stp.refl Z) sa2⟩
/-- isinstance(a, (C1, C2)) -/
theorem pd_isiT {A : Ans} {us : List Value} {cvs : List V} {cs : List Expr} {kk : Nat} (ha : PDE X a ta) (hcv : Paired ClsV cvs us) (hc : PDA X cs (fun _ m => .ok (cvs.map .val) m)) (hl : cvs.length ≤ sizeLine) (hA : AnsOk X.K A us) (hm : X.mg "isinstance" = none) (hg : Gl X "isinstance" := by rfl)
    (hs : starEach [a, .Tuple cs kk q] X.env = (false, eval a X.env) :: starEach [.Tuple cs kk q] X.env := by rfl) (hs2 : starEach [.Tuple cs kk q] X.env = (false, eval (.Tuple cs kk q) X.env) :: starEach [] X.env := by rfl) (hpl : (backTo pos (starEach [.Tuple cs kk q] X.env)).any (·.1) = false := by rfl) :
    PDE X (.Call (.Name "isinstance" p) [a, .Tuple cs kk q] [] pos) (dIsi A ta) := by
  refine pd_of (pe_callB call_isiT hg hm (by decide +kernel) (pa_cons (mxE X a) (pa_cons (pe_tup (mxA X cs)) pa_nil hs2) hs) (by decide) (by decide) hs hpl) fun S r m σ Q sa re p => ?_
  refine ha S r m σ _ sa re (Post.bindI p fun d m1 v T st sa1 rd qq => ?_)
  refine hc T r m1 σ _ sa1 (re.stp st) ?_
  intro ws Z st2 sa2 rw
  have hws : ∀ {l : List V} {ws : List V}, Reps X.K Z.i Z.F (l.map D.val) ws → ws = l := by
    intro l
    induction l with
    | nil => intro ws r; cases r; rfl
    | cons y l ih =>
      intro ws r
      cases r with
      | cons h1 h2 => cases h1; rw [ih h2]
  have e := hws rw
  subst e
  refine ⟨hl, fun n hn => ?_⟩
  have st3 := Stp.new sa2 (o := .tup ws) hn
  have sa3 := sa2.new (o := .tup ws) hn
  obtain ⟨b, ty, k1, k2, k3⟩ := isi_fin hA sa3 ((rd.stp st2).stp st3) (Post.step (st2.trans st3) qq)
  exact ⟨v, n, ws, ty, us, b, rfl, upd_same, hcv, k1, k2, k3 _ (Stp.refl _) sa3⟩
/-! ### keywords -/
/-- the places: where in (positional ++ keywords' ++ defaults') values each parameter finds its own -/
def pick (pl : List Nat) (ds : List D) : Option (List D) := match pl with
  | [] => some []
  | i :: r => match ds[i]? with
    | some d => match pick r ds with
      | some xs => some (d :: xs)
      | none => none
    | none => none
/-- a call with keywords of a def: n positional, names ks -/
structure BK (K : PySem.W.Frag) (fd : FuncData) (ps : List Str) (n : Nat) (ks : List Str) (pl : List Nat) (dds : List D) : Prop where
  ex : ∃ (ds : List Value) (dvs : List V), Vals dvs ds ∧ (∀ (i : List Addr) (F : Hp), Reps K i F dds dvs) ∧
    ∀ (s : Shared) (us ws : List Value), K.In s.heap → us.length = n → ws.length = ks.length → BindsTo s fd ⟨us, ks.zip ws⟩ (ps.zip (pl.filterMap fun i => (us ++ ws ++ ds)[i]?)) ∧ (pl.filterMap fun i => (us ++ ws ++ ds)[i]?).length = ps.length
structure FTK (P : Program) (w : World) (K : PySem.W.Frag) (mg : Str → Option Value) (base : Heap) (k : Nat) (x : Str) (n : Nat) (ks : List Str) (G : DFn) : Prop where
  ex : ∃ (f : Addr) (fd : FuncData) (ps : List Str) (pl : List Nat) (dds : List D) (G0 : DFn), mg x = some (.ref f) ∧ PySem.W.keepIn K (.ref f) = true ∧ FnD P w K mg base k f fd ps G0 ∧ BK K fd ps n ks pl dds ∧
    G = fun ds m => match pick pl (ds ++ dds) with
      | some xs => G0 xs m
      | none => .stuck
theorem pick_reps {K : PySem.W.Frag} {ι : List Addr} {F : Hp} {ds : List D} {vs : List V} (r : Reps K ι F ds vs) : ∀ {pl : List Nat} {xs : List D}, pick pl ds = some xs → Reps K ι F xs (pl.filterMap fun i => vs[i]?)
  | [], xs, h => by cases h; exact .nil
  | i :: pl, xs, h => by
    unfold pick at h
    cases q : ds[i]? with
    | none => rw [q] at h; cases h
    | some d =>
      cases q2 : pick pl ds with
      | none => rw [q, q2] at h; cases h
      | some ys =>
        rw [q, q2] at h; cases h
        obtain ⟨v, hv, rv⟩ := r.get q
        rw [List.filterMap_cons, hv]
        exact .cons rv (pick_reps r q2)
theorem vals_pick {vs : List V} {us : List Value} (r : Vals vs us) : ∀ (pl : List Nat), Vals (pl.filterMap fun i => vs[i]?) (pl.filterMap fun i => us[i]?)
  | [] => .nil
  | i :: pl => by
    rw [List.filterMap_cons, List.filterMap_cons]
    cases q : vs[i]? with
    | none =>
      rw [r.none_of q]
      exact vals_pick r pl
    | some v =>
      obtain ⟨u, hu, ru⟩ := r.get q
      rw [hu]
      exact .cons ru (vals_pick r pl)
def PDK (X : Cx) (kws : List Keyword) (t : DA) : Prop := ∀ S r m σ Q, Sta X.K S m → RelE X.K S r σ → PostL X.K S (t r m) Q (fun c d H => Fly X c d σ H) →
  ∀ (pos : Pos) (pins : List (Addr × Obj)) (s : Shared), Inv X pins σ S.H s → wpAny (model X.prog X.w) X.A (evalAll ((backToKw pos (keywordEach kws X.env)).map (·.2))) (AP X pins σ Q) X.xe s
theorem pdk_nil : PDK X [] dNil := fun S r m σ Q sa re p pos pins s I => (pk_nil (X := X)).run pos pins s σ S.H Q I (Post.ok p (Stp.refl S) sa .nil)
theorem pdk_cons {nm : Option Str} {kpos : Pos} {kws : List Keyword} (ha : PDE X a ta) (hr : PDK X kws t) : PDK X (⟨nm, a, kpos⟩ :: kws) (dCons ta t) := by
  intro S r m σ Q sa re p pos pins s I
  refine (pk_cons (mxE X a) (t := fun σ H Q => ∀ (pos : Pos) (pins : List (Addr × Obj)) (s : Shared), Inv X pins σ H s → wpAny (model X.prog X.w) X.A (evalAll ((backToKw pos (keywordEach kws X.env)).map (·.2))) (AP X pins σ Q) X.xe s) ⟨fun pos pins s σ H Q I h => h pos pins s I⟩).run pos pins s σ S.H Q I ?_
  refine ha S r m σ _ sa re (Post.bindI p fun d m1 v T st sa1 rd q => ?_)
  refine hr T r m1 σ _ sa1 (re.stp st) (Post.bindI q fun ds m2 vs U st2 sa2 rds q2 => ?_)
  exact Post.ok q2 (Stp.refl U) sa2 (.cons (rd.stp st2) rds)
def dFunK (G : DFn) (n nk : Nat) (t u : DA) : DE := fun e m => (t e m).bind fun ds m1 => (u e m1).bind fun zs m2 => if ds.length = n ∧ zs.length = nk then G (ds ++ zs) m2 else .stuck
theorem PDK.run {γ δ : Type} {R' : Wd → γ → δ → Prop} {kws : List Keyword} (ha : PDK X kws t) {S : Wd} {r : En} {m : Mu} {σ : L2.St} {f : List D → Mu → Res γ} {Q : δ → Hp → Prop} (sa : Sta X.K S m) (re : RelE X.K S r σ)
    (p : Post R' X.K S ((t r m).bind f) Q (fun c d H => Fly X c d σ H)) {pins : List (Addr × Obj)} {s : Shared} (I : Inv X pins σ S.H s) (pos : Pos) :
    wpAny (model X.prog X.w) X.A (evalAll ((backToKw pos (keywordEach kws X.env)).map (·.2))) (fun us s1 => ∃ (xs : List V) (ds : List D) (m1 : Mu) (T : Wd), Stp S T ∧ Sta X.K T m1 ∧ Reps X.K T.i T.F ds xs ∧ Vals xs us ∧ Inv X pins σ T.H s1 ∧ Post R' X.K T (f ds m1) Q (fun c d H => Fly X c d σ H)) X.xe s := by
  refine thn (ha S r m σ _ sa re (Post.bindI p (Q' := fun v H => ∃ d m1 T, H = T.H ∧ Stp S T ∧ Sta X.K T m1 ∧ Reps X.K T.i T.F d v ∧ Post R' X.K T (f d m1) Q (fun c d H => Fly X c d σ H)) fun d m1 v T st sa1 r1 q => ⟨d, m1, T, rfl, st, sa1, r1, q⟩) pos pins s I) ?_
  rintro us s1 ⟨xs, H1, I1, r1, d, m1, T, rfl, st, sa1, rd, q⟩
  exact ⟨xs, d, m1, T, st, sa1, rd, r1, I1, q⟩
theorem run_fnK {k : Nat} {n : Nat} {ks : List Str} {G0 : DFn} {f : Addr} {fd : FuncData} {ps : List Str} {pl : List Nat} {dds : List D} {pins : List (Addr × Obj)} {σ : L2.St} {S : Wd} {m : Mu} {s : Shared} {Q : VK} {us ws : List Value} {vs zs : List V} {das dzs : List D} (hf : FnD X.prog X.w X.K X.mg X.base k f fd ps G0) (hr : Room k X.A) (hb : BK X.K fd ps n ks pl dds)
    (I : Inv X pins σ S.H s) (sa : Sta X.K S m) (r : Reps X.K S.i S.F das vs) (rz : Reps X.K S.i S.F dzs zs) (rv : Vals vs us) (rw : Vals zs ws) (hn : das.length = n) (hk : dzs.length = ks.length) {xs : List D} (hp : pick pl ((das ++ dzs) ++ dds) = some xs)
    (h : PostD X.K S (G0 xs m) Q (fun c d H => Fly X c d σ H)) : wpAny (model X.prog X.w) X.A (call (.ref f) us (ks.zip ws)) (EP X pins σ Q) X.xe s := by
  obtain ⟨dsv, dvs, hd, hD, hB⟩ := hb.ex
  have l1 : us.length = n := by rw [← rv.length, ← r.len]; exact hn
  have l2 : ws.length = ks.length := by rw [← rw.length, ← rz.len]; exact hk
  obtain ⟨b1, b2⟩ := hB s us ws I.kIn l1 l2
  have r1 := pick_reps ((r.append rz).append (hD S.i S.F)) hp
  have r2 := vals_pick ((rv.append rw).append hd) pl
  have hlv : (pl.filterMap fun i => (vs ++ zs ++ dvs)[i]?).length = ps.length := by rw [r2.length]; exact b2
  refine wpAny_call (codeAny_mono (hf.run X.A X.stack s S.H ⟨us, ks.zip ws⟩ _ _ Q (fun c d H => Fly X c d σ H) hr I.env0 b1 r2 ⟨hlv, S, m, xs, rfl, sa, r1, h⟩) fun r s' hq => ?_)
  cases r with
  | error e =>
    obtain ⟨a, B, sI, pins', σ', H', cls, d, e1, I', nb, up, sky, na, os, ag, e2, fl⟩ := XE.of_call I (W := fun c d σ' H => σ' = σ ∧ Fly X c d σ H) (fun cls d H' h => ⟨rfl, h⟩) hq
    exact fl e s' ⟨a, B, sI, pins', σ', H', cls, d, e1, I', nb, up, sky, na, os, ag, rfl, rfl, e2, rfl⟩
  | ok fl =>
    cases fl with
    | ret u => exact I.after hq
    | next => exact False.elim hq
    | brk => exact False.elim hq
    | cont => exact False.elim hq
theorem pd_funK {k n : Nat} {ks : List Str} {G : DFn} {kws : List Keyword} {tk : DA} (F : FTK X.prog X.w X.K X.mg X.base k x n ks G) (hr : Room k X.A) (ha : PDA X (e :: es) t) (hkw : PDK X kws tk)
    (hks : (backToKw pos (keywordEach kws X.env)).filterMap (·.1) = ks := by rfl) (hall : (backToKw pos (keywordEach kws X.env)).all (·.1.isSome) = true := by rfl)
    (hg : Gl X x := by rfl) (hdb : (x == ("__debug__" : Str)) = false := by decide) (he : starEach (e :: es) X.env = (false, eval e X.env) :: starEach es X.env := by exact se_cons _ _ _ rfl)
    (hpl : ((backTo pos (starEach (e :: es) X.env)).any (·.1) || (backToKw pos (keywordEach kws X.env)).any (·.1.isNone)) = false := by rfl) :
    PDE X (.Call (.Name x p) (e :: es) kws pos) (dFunK G n ks.length t tk) := by
  obtain ⟨f, fd, ps, pl, dds, G0, hm, hk, hf, hb, rfl⟩ := F.ex
  intro S r m σ Q sa re q pins s I
  refine wpAny_Call_Name_kw (ld_glob I hg hm ?_ hdb)
  refine PySem.W.callWith_KW (h₀ := X.base) I.ok.mod.kin hk hall (thn (ha.run sa re q I pos) ?_) hpl he
  rintro us s1 ⟨xs, das, m1, T, st, sa1, rds, rv, I1, q1⟩
  refine thn (hkw.run sa1 (re.stp st) q1 I1 pos) ?_
  rintro ws s2 ⟨zs, dzs, m2, U, st2, sa2, rdz, rz, I2, q2⟩
  refine ⟨I2.kIn, ?_⟩
  rw [hks]
  split at q2
  · rename_i hl
    dsimp only at q2
    split at q2
    · rename_i xs' hp
      exact run_fnK hf hr hb I2 sa2 (rds.stp st2) rdz rv rz hl.1 hl.2 hp q2
    · exact q2.elim
  · exact q2.elim
theorem pd_funK0 {k : Nat} {ks : List Str} {G : DFn} {kws : List Keyword} {tk : DA} (F : FTK X.prog X.w X.K X.mg X.base k x 0 ks G) (hr : Room k X.A) (hkw : PDK X kws tk)
    (hks : (backToKw pos (keywordEach kws X.env)).filterMap (·.1) = ks := by rfl) (hall : (backToKw pos (keywordEach kws X.env)).all (·.1.isSome) = true := by rfl)
    (hg : Gl X x := by rfl) (hdb : (x == ("__debug__" : Str)) = false := by decide)
    (hpl : ((backTo pos (starEach [] X.env)).any (·.1) || (backToKw pos (keywordEach kws X.env)).any (·.1.isNone)) = false := by rfl) :
    PDE X (.Call (.Name x p) [] kws pos) (dFunK G 0 ks.length dNil tk) := by
  obtain ⟨f, fd, ps, pl, dds, G0, hm, hk, hf, hb, rfl⟩ := F.ex
  intro S r m σ Q sa re q pins s I
  refine wpAny_Call_Name_kw (ld_glob I hg hm ?_ hdb)
  refine PySem.W.callWith_KW0 (first := []) (h₀ := X.base) I.ok.mod.kin hk hall (thn (hkw.run sa re (f := fun zs m2 => if ([] : List D).length = 0 ∧ zs.length = ks.length then _ else .stuck) q I pos) ?_) hpl
  rintro ws s2 ⟨zs, dzs, m2, U, st2, sa2, rdz, rz, I2, q2⟩
  refine ⟨I2.kIn, ?_⟩
  rw [hks]
  split at q2
  · rename_i hl
    dsimp only at q2
    split at q2
    · rename_i xs' hp
      exact run_fnK (us := []) (vs := []) (das := []) hf hr hb I2 sa2 .nil rdz .nil rz rfl hl.2 hp q2
    · exact q2.elim
  · exact q2.elim
end
end DL

namespace DL
open PySem PySem.Spec PyProof.Rows L2
variable [LamTab]
section
variable {P : Program} {w : World} {K : PySem.W.Frag} {mg : Str → Option Value} {base : Heap}
theorem MT.mono {j k : Nat} {mn : Str} {C : Addr} {G : DFn} (h : MT P w K mg base j mn C G) (hk : j ≤ k) : MT P w K mg base k mn C G := by
  obtain ⟨f, fd, ps, dds, G0, h1, h2, h3, h4, h5, h6⟩ := h.ex
  exact ⟨f, fd, ps, dds, G0, h1, h2, h3, h4.mono hk, h5, h6⟩
theorem bd_of {fd : FuncData} {ps : List Str} {dvs : List V} {dds : List D} (h : ∃ ds, Vals dvs ds ∧ Binds K fd ps ds) (r : ∀ (i : List Addr) (F : Hp), Reps K i F dds dvs) : Bd K fd ps dds := by
  obtain ⟨ds, h1, h2⟩ := h
  exact ⟨ds, dvs, h2, h1, r⟩
theorem dfl_nil {dV : Value} (h : DflV K dV []) : dV = .none := by
  rcases h with ⟨_, h⟩ | ⟨h, _⟩
  · exact h
  · exact absurd rfl h
theorem pdss_stuck {X : Cx} {sts : List Stmt} : PDSs X sts dStuck := fun S r m σ N sa re p => p.elim
theorem fnD_none {x qual : Str} {params : Arguments} {body : List Stmt} {scope : Scope} {dvs : List V} {kws : List (Str × V)} {f : Addr} {fd : FuncData} {N ps : List Str} (F : FunD K x qual params body scope dvs kws f fd) (S : FnScope N ps scope) :
    FnD P w K mg base 1 f fd ps (fun _ _ => .stuck) := FnD.imp' (fnD_of (k := 0) (t := dStuck) F S fun cdv A outer s H E hr => pdss_stuck) fun ds m h => absurd rfl h
/-- without the tables of code objects -/
def noTbl (H : Hp) : Hp := fun b => match H b with
  | some (.tbl _) => none
  | o => o
/-- the law's promise -/
def spLaw (K : PySem.W.Frag) : Sp := fun vs H Q _ => ∃ (a : Addr) (ns : List Int), vs = [.ref a] ∧ SqL K H a (ns.map V.int) ∧ ns.length ≤ 63 ∧ (∀ p ∈ LamTab.tbls K, H p.1 = some (.tbl #[])) ∧ ∀ H', Q (.bl true) H'
theorem reps_ints {ι : List Addr} {F : Hp} : ∀ (ns : List Int), Reps K ι F (ns.map D.int) (ns.map V.int)
  | [] => .nil
  | n :: ns => .cons (.int n) (reps_ints ns)
theorem law_sp {k : Nat} {f : Addr} {fd : FuncData} {x : Str} {F : DFn} (h : FnD P w K mg base k f fd [x] F) (ht : ∀ ns : List Int, ns.length ≤ 63 → ∃ m, F [.lst (ns.map .int)] [] = .ok (.bl true) m) : FnOk P w K mg base (L2.CX P w) k f fd [x] (spLaw K) := by
  refine FnOk.imp h fun vs H Q E hs => ?_
  obtain ⟨a, ns, rfl, hS, hl, hT, hq⟩ := hs
  obtain ⟨m, e⟩ := ht ns hl
  have ex : Ext (noTbl H) H := fun b o e => by
    unfold noTbl at e
    split at e
    · cases e
    · exact e
  have hS' : SqL K (noTbl H) a (ns.map V.int) := by
    rcases hS with (h | ⟨o, h⟩) | h
    · exact .inl (.inl (by unfold noTbl; rw [h]))
    · exact .inl (.inr ⟨o, by unfold noTbl; rw [h]⟩)
    · exact .inr h
  refine ⟨rfl, ⟨[], noTbl H, H⟩, [], [.lst (ns.map .int)], rfl, ⟨List.nodup_nil, rfl, ex, fun a h => (nomatch h), fun a h => (nomatch h), fun n a o h => by simp at h, fun p hp => ⟨#[], hT p hp, by show noTbl H p.1 = none; unfold noTbl; rw [hT p hp], (fun z => nomatch z), True.intro, fun pos cv hc => by
      have z : codeAmong pos [] = some cv := hc
      simp [codeAmong] at z⟩⟩, .cons (.lst hS' (reps_ints ns)) .nil, ?_⟩
  rw [e]
  intro v T st sa r
  cases r
  exact hq _
theorem nofly {outer : List Env} {H : Hp} {s s' : Shared} {e : Value} (z : L2.CX P w outer H s (fun _ _ _ => False) e s') : False := by
  obtain ⟨_, _, _, _, _, _, _, _, _, _, _, _, z⟩ := z
  exact z
end
section
variable {X : Cx} {a b c : Expr} {ta tb tc : DE} {t : DA} {pos : Pos}
def dPar3 (i j l : Nat) (t : DA) : DS := fun e m => match t e m with
  | .ok [x, y, z] m1 => .nx (((e.set i (some x)).set j (some y)).set l (some z)) m1
  | .exc C fs m1 => .exc C fs e m1
  | _ => .stuck
theorem reps3 {K : PySem.W.Frag} {i : List Addr} {F : Hp} {d e f : D} {xs : List V} (r : Reps K i F [d, e, f] xs) : ∃ u v w, xs = [u, v, w] ∧ Rep K i F d u ∧ Rep K i F e v ∧ Rep K i F f w := by
  cases r with
  | cons h r => obtain ⟨v, w, rfl, h2, h3⟩ := reps2 r; exact ⟨_, v, w, rfl, h, h2, h3⟩
theorem pds_par3 {i j l : Nat} {x y z : Str} {px py pz pt : Pos} {kt k2 pt2} (ha : PDA X [a, b, c] t) (hc : X.calm = true) (hN : X.N.Nodup)
    (hw : swappedStores [.Tuple [.Name x px, .Name y py, .Name z pz] kt pt] (.Tuple [a, b, c] k2 pt2) X.env = pure (some [x, y, z]) := by rfl) (hi : X.N[i]? = some x := by rfl) (hj : X.N[j]? = some y := by rfl) (hl : X.N[l]? = some z := by rfl) (hij : i ≠ j := by decide) (hil : i ≠ l := by decide) (hjl : j ≠ l := by decide)
    (hx : X.env.scope.names.lookup x = some .local := by rfl) (hy : X.env.scope.names.lookup y = some .local := by rfl) (hz : X.env.scope.names.lookup z = some .local := by rfl)
    (hs : swapsWithSole [.Tuple [.Name x px, .Name y py, .Name z pz] kt pt] (.Tuple [a, b, c] k2 pt2) pos.line X.env = pure false := by rfl) :
    PDS X (.Assign [.Tuple [.Name x px, .Name y py, .Name z pz] kt pt] (.Tuple [a, b, c] k2 pt2) pos) (dPar3 i j l t) := by
  refine ps_of (ps_par3 hc hN hi hj hl hij hil hjl hx hy hz (mxA X _) hw hs) fun S r m σ N sa re p => ha S r m σ _ sa re ?_
  unfold dPar3 at p
  cases q : t r m with
  | stuck => rw [q] at p; exact p
  | exc C fs m1 => rw [q] at p; exact fun dd vs T st hn sa1 h1 h2 => p dd vs σ T st hn sa1 (re.stp st) h1 h2
  | ok ds m1 =>
    rw [q] at p
    intro vs T st sa1 rds
    split at p
    · rename_i d1 d2 d3 m2 heq
      cases heq
      obtain ⟨u, v, w, rfl, r1, r2, r3⟩ := reps3 rds
      exact ⟨u, v, w, rfl, p _ T st sa1 ((((re.stp st).set i r1).set j r2).set l r3)⟩
    · rename_i heq; cases heq
    · exact p.elim
theorem pdt_chain {op op' : CmpOp} {g h : D2} (ho : OD X (compareOp op) g) (ho' : OD X (compareOp op') h) (ha : PDE X a ta) (hb : PDE X b tb) (hc : PDE X c tc)
    (hm : lastMarks [op, op'] [b, c] = false := by with_unfolding_all rfl) : PDT X (.Compare a [op, op'] [b, c] pos) (dTst (dChain g h ta tb tc)) := by
  intro S r m σ Q sa re p pins s I
  have p : PostD X.K S (dChain g h ta tb tc r m) (fun v H => ∃ b, v = .bl b ∧ Q b H) (fun c d H => Fly X c d σ H) := EP.bool (pins := pins) (σ := σ) p
  refine isTrue_chain (thn (ha.run sa re p I) ?_) hm
  rintro v s1 ⟨x, d, m1, T, st, sa1, rd, r1, I1, q⟩
  refine test_link (thn (hb.run sa1 (re.stp st) q I1) ?_)
  rintro u s2 ⟨y, d', m2, U, st2, sa2, rd2, r2, I2, q2⟩
  refine thn (ho.run sa2 (rd.stp st2) rd2 r1 r2 q2 I2) ?_
  rintro w s3 ⟨z, d3, m3, Y, st3, sa3, rd3, r3, I3, q3⟩
  cases rd3 with
  | bl k =>
    cases r3
    refine wpAny_truthy_bool ?_
    cases k with
    | false =>
      obtain ⟨k', e', q'⟩ := Post.ok q3 (Stp.refl Y) sa3 (.bl false)
      cases e'
      exact ite_ff ⟨_, I3, q'⟩
    | true =>
      refine ite_tt (test_last (thn (hc.run sa3 (((re.stp st).stp st2).stp st3) q3 I3) ?_))
      rintro w' s4 ⟨z', d4, m4, Z, st4, sa4, rd4, r4, I4, q4⟩
      refine thn (ho' pins s4 σ Z m4 d' d4 y z' u w' _ sa4 ((rd2.stp st3).stp st4) rd4 I4 r2 r4 q4) ?_
      rintro c5 s5 ⟨z5, H5, I5, r5, k5, e5, q5⟩
      subst e5
      cases r5
      exact wpAny_truthy_bool ⟨H5, I5, q5⟩
  | _ => exact (show False from q3).elim
end
end DL

namespace DL
open PySem PySem.Spec PyProof.Rows L2
variable [LamTab]
section
@[simp ↓] theorem dVar_ap (i : Nat) (e : En) (m : Mu) : dVar  i e m = match e[i]? with
  | some (some d) => .ok d m
  | _ => .stuck := rfl
@[simp ↓] theorem dC_ap (d : D) (x_0 : En) (m : Mu) : dC  d x_0 m = .ok d m := rfl
@[simp ↓] theorem dBin_ap (f : D2) (a b : DE) (e : En) (m : Mu) : dBin  f a b e m = (a e m).bind fun x m1 => (b e m1).bind fun y m2 => f x y m2 := rfl
@[simp] theorem orD_ap (f g : D2) (x : D) (y : D) (m : Mu) : orD  f g x y m = match f x y m with
  | .stuck => g x y m
  | r => r := rfl
@[simp ↓] theorem dTst_ap (t : DE) (e : En) (m : Mu) : dTst  t e m = (t e m).bind fun d m => match d with
  | .bl b => .ok b m
  | _ => .stuck := rfl
@[simp ↓] theorem dTr_ap (t : DE) (e : En) (m : Mu) : dTr  t e m = (t e m).bind fun d m => match dTru m d with
  | some b => .ok b m
  | none => .stuck := rfl
@[simp ↓] theorem dNotT_ap (t : DT) (e : En) (m : Mu) : dNotT  t e m = (t e m).bind fun b m => .ok (!b) m := rfl
@[simp ↓] theorem dAndT_ap (t u : DT) (e : En) (m : Mu) : dAndT  t u e m = (t e m).bind fun b m => if b then u e m else .ok false m := rfl
@[simp ↓] theorem dOrT_ap (t u : DT) (e : En) (m : Mu) : dOrT  t u e m = (t e m).bind fun b m => if b then .ok true m else u e m := rfl
@[simp ↓] theorem dAnd_ap (t u : DE) (e : En) (m : Mu) : dAnd  t u e m = (t e m).bind fun d m => match d with
  | .bl true => u e m
  | .bl false => .ok (.bl false) m
  | _ => .stuck := rfl
@[simp ↓] theorem dOr_ap (t u : DE) (e : En) (m : Mu) : dOr  t u e m = (t e m).bind fun d m => match d with
  | .bl false => u e m
  | .bl true => .ok (.bl true) m
  | _ => .stuck := rfl
@[simp ↓] theorem dNot_ap (t : DE) (e : En) (m : Mu) : dNot  t e m = (t e m).bind fun d m => match d with
  | .bl b => .ok (.bl !b) m
  | _ => .stuck := rfl
@[simp ↓] theorem dIf_ap (t : DT) (u w : DE) (e : En) (m : Mu) : dIf  t u w e m = (t e m).bind fun b m => if b then u e m else w e m := rfl
@[simp ↓] theorem dChain_ap (g h : D2) (ta tb tc : DE) (e : En) (m : Mu) : dChain  g h ta tb tc e m = (ta e m).bind fun x m1 => (tb e m1).bind fun y m2 => (g x y m2).bind fun z m3 => match z with
  | .bl true => (tc e m3).bind fun w m4 => h y w m4
  | .bl false => .ok (.bl false) m3
  | _ => .stuck := rfl
@[simp ↓] theorem dNil_ap (x_0 : En) (m : Mu) : dNil  x_0 m = .ok [] m := rfl
@[simp ↓] theorem dCons_ap (t : DE) (u : DA) (e : En) (m : Mu) : dCons  t u e m = (t e m).bind fun d m1 => (u e m1).bind fun ds m2 => .ok (d :: ds) m2 := rfl
@[simp ↓] theorem dTup_ap (t : DA) (e : En) (m : Mu) : dTup  t e m = (t e m).bind fun ds m1 => if ds.length ≤ sizeLine then .ok (.tup ds) m1 else .stuck := rfl
@[simp ↓] theorem dLst_ap (t : DA) (e : En) (m : Mu) : dLst  t e m = (t e m).bind fun ds m1 => if ds.length ≤ sizeLine then .ok (.lst ds) m1 else .stuck := rfl
@[simp ↓] theorem dLoc_ap (t : DA) (e : En) (m : Mu) : dLoc  t e m = (t e m).bind fun ds m1 => if ds.length ≤ sizeLine then .ok (.loc m1.length) (m1 ++ [.lst ds]) else .stuck := rfl
@[simp ↓] theorem dFn_ap (N : Nat) (body : DS) (ds : List D) (m : Mu) : dFn  N body ds m = match body (env0 N ds) m with
  | .nx _ m1 => .ok .non m1
  | .rt d m1 => .ok d m1
  | .exc C fs _ m1 => .exc C fs m1
  | _ => .stuck := rfl
@[simp ↓] theorem dFld_ap (rows : List (Kl × Nat)) (t : DE) (e : En) (m : Mu) : dFld  rows t e m = (t e m).bind fun d m1 => match insOf m1 d with
  | some (C, ns, ds) => match fldAt rows C ns ds with
    | some x => .ok x m1
    | none => .stuck
  | none => .stuck := rfl
@[simp] theorem padF_ap (n : Nat) (dds : List D) (G : DFn) (ds : List D) (m : Mu) : padF  n dds G ds m = if (ds ++ dds).length = n then G (ds ++ dds) m else .stuck := rfl
@[simp ↓] theorem dFun_ap (G : DFn) (t : DA) (e : En) (m : Mu) : dFun  G t e m = (t e m).bind G := rfl
@[simp ↓] theorem dMeth_ap (rows : List (Kl × DFn)) (to : DE) (t : DA) (e : En) (m : Mu) : dMeth  rows to t e m = (to e m).bind fun o m1 => match insOf m1 o with
  | some (C, ns, _) => match methAt rows C ns with
    | some G => (t e m1).bind fun ds m2 => G (o :: ds) m2
    | none => .stuck
  | none => .stuck := rfl
@[simp ↓] theorem dProp_ap (rows : List (Kl × DFn)) (to : DE) (e : En) (m : Mu) : dProp  rows to e m = (to e m).bind fun o m1 => match insOf m1 o with
  | some (C, ns, _) => match methAt rows C ns with
    | some G => noExc (G [o] m1)
    | none => .stuck
  | none => .stuck := rfl
@[simp ↓] theorem dOwn2_ap (C : Addr) (G : DFn) (x : D) (y : D) (m : Mu) : dOwn2  C G x y m = match insOf m x, insOf m y with
  | some (C1, _, _), some (C2, _, _) => if C1 = C ∧ C2 = C then G [x, y] m else .stuck
  | _, _ => .stuck := rfl
@[simp ↓] theorem dNeg_ap (C : Addr) (G : DFn) (t : DE) (e : En) (m : Mu) : dNeg  C G t e m = (t e m).bind fun x m1 => match x with
  | .int i => .ok (.int (-i)) m1
  | _ => match insOf m1 x with
    | some (C1, _, _) => if C1 = C then G [x] m1 else .stuck
    | none => .stuck := rfl
@[simp ↓] theorem dNegI_ap (t : DE) (e : En) (m : Mu) : dNegI  t e m = (t e m).bind fun x m1 => match x with
  | .int i => .ok (.int (-i)) m1
  | _ => .stuck := rfl
@[simp] theorem gI2_ap (C : Int → Int → Bool) (k : Int → Int → D) (x : D) (y : D) (m : Mu) : gI2  C k x y m = match x with
  | .int i => match y with
    | .int j => if C i j then .ok (k i j) m else .stuck
    | _ => .stuck
  | _ => .stuck := rfl
@[simp] theorem gI0_ap (k : Int → Int → D) (x : D) (y : D) (m : Mu) : gI0  k x y m = match x with
  | .int i => match y with
    | .int j => .ok (k i j) m
    | _ => .stuck
  | _ => .stuck := rfl
@[simp] theorem gAddS_ap (x : D) (y : D) (m : Mu) : gAddS  x y m = match x with
  | .str a => match y with
    | .str b => if a.length + b.length ≤ sizeLine then .ok (.str (a ++ b)) m else .stuck
    | _ => .stuck
  | _ => .stuck := rfl
@[simp] theorem gIsN_ap (x : D) (y : D) (m : Mu) : gIsN  x y m = match y with
  | .non => match x with
    | .non => .ok (.bl true) m
    | .val _ => .stuck
    | _ => .ok (.bl false) m
  | _ => .stuck := rfl
@[simp] theorem gNotN_ap (x : D) (y : D) (m : Mu) : gNotN  x y m = match y with
  | .non => match x with
    | .non => .ok (.bl false) m
    | .val _ => .stuck
    | _ => .ok (.bl true) m
  | _ => .stuck := rfl
@[simp] theorem gEqD_ap (neg : Bool) (x : D) (y : D) (m : Mu) : gEqD  neg x y m = match pyOf m x, pyOf m y with
  | some d, some e => if SeqAt.shaped d && SeqAt.shaped e then .ok (.bl (neg ^^ PyData.eqv d e)) m else .stuck
  | _, _ => .stuck := rfl
@[simp] theorem gEqS_ap (neg : Bool) (x : D) (y : D) (m : Mu) : gEqS  neg x y m = match scEq x y with
  | some b => .ok (.bl (neg ^^ b)) m
  | none => .stuck := rfl
@[simp] theorem gInQ_ap (neg : Bool) (x : D) (y : D) (m : Mu) : gInQ  neg x y m = match toV x, (seqA m y).bind toVs with
  | some v, some vs => .ok (.bl (neg ^^ inV v vs)) m
  | _, _ => .stuck := rfl
@[simp] theorem gInS_ap (neg : Bool) (x : D) (y : D) (m : Mu) : gInS  neg x y m = match x with
  | .str a => match y with
    | .str b => .ok (.bl (neg ^^ occurs a b)) m
    | _ => .stuck
  | _ => .stuck := rfl
@[simp] theorem gAbs_ap (ds : List D) (m : Mu) : gAbs  ds m = match ds with
  | [.int i] => .ok (.int (if i < 0 then -i else i)) m
  | _ => .stuck := rfl
@[simp] theorem gInt_ap (ds : List D) (m : Mu) : gInt  ds m = match ds with
  | [.int i] => .ok (.int i) m
  | [.bl b] => .ok (.int (if b then 1 else 0)) m
  | _ => .stuck := rfl
@[simp] theorem gBool_ap (ds : List D) (m : Mu) : gBool  ds m = match ds with
  | [.int i] => .ok (.bl (i != 0)) m
  | [.bl b] => .ok (.bl b) m
  | _ => .stuck := rfl
@[simp] theorem gMin2_ap (ds : List D) (m : Mu) : gMin2  ds m = match ds with
  | [.int i, .int j] => .ok (.int (if j < i then j else i)) m
  | _ => .stuck := rfl
@[simp] theorem gMax2_ap (ds : List D) (m : Mu) : gMax2  ds m = match ds with
  | [.int i, .int j] => .ok (.int (if j > i then j else i)) m
  | _ => .stuck := rfl
@[simp] theorem gStrI_ap (ds : List D) (m : Mu) : gStrI  ds m = match ds with
  | [.int i] => if i.natAbs.log2 < 1920 then .ok (.str (toString i)) m else .stuck
  | _ => .stuck := rfl
@[simp] theorem gLen_ap (ds : List D) (m : Mu) : gLen  ds m = match ds with
  | [.str x] => if x.length ≤ sizeLine then .ok (.int x.length) m else .stuck
  | [d] => match seqA m d with
    | some ds => .ok (.int ds.length) m
    | none => .stuck
  | _ => .stuck := rfl
@[simp] theorem gList_ap (ds : List D) (m : Mu) : gList  ds m = match ds with
  | [d] => match seqA m d with
    | some es => .ok (.lst es) m
    | none => .stuck
  | _ => .stuck := rfl
@[simp] theorem gListM_ap (ds : List D) (m : Mu) : gListM  ds m = match ds with
  | [d] => match seqA m d with
    | some es => .ok (.loc m.length) (m ++ [.lst es])
    | none => .stuck
  | _ => .stuck := rfl
@[simp] theorem gAll_ap (ds : List D) (m : Mu) : gAll  ds m = match ds with
  | [d] => match (seqL m d).bind toBs with
    | some bs => .ok (.bl (bs.all _root_.id)) m
    | none => .stuck
  | _ => .stuck := rfl
@[simp] theorem gAny_ap (ds : List D) (m : Mu) : gAny  ds m = match ds with
  | [d] => match (seqL m d).bind toBs with
    | some bs => .ok (.bl (bs.any _root_.id)) m
    | none => .stuck
  | _ => .stuck := rfl
@[simp ↓] theorem dNoPart_ap (x_0 : En) (m : Mu) : dNoPart  x_0 m = .ok none m := rfl
@[simp ↓] theorem dPart_ap (t : DE) (e : En) (m : Mu) : dPart  t e m = (t e m).bind fun d m1 => match d with
  | .int i => .ok (some i) m1
  | _ => .stuck := rfl
@[simp ↓] theorem dSl_ap (t : DE) (lo hi : DO) (e : En) (m : Mu) : dSl  t lo hi e m = (t e m).bind fun d m1 => (lo e m1).bind fun l m2 => (hi e m2).bind fun h m3 => match seqL m3 d with
  | some ds => .ok (.lst (cutD ds l h)) m3
  | none => .stuck := rfl
@[simp ↓] theorem dSeq_ap (t u : DS) (e : En) (m : Mu) : dSeq  t u e m = match t e m with
  | .nx e1 m1 => u e1 m1
  | r => r := rfl
@[simp ↓] theorem dSkip_ap (e : En) (m : Mu) : dSkip  e m = .nx e m := rfl
@[simp ↓] theorem dRet_ap (t : DE) (e : En) (m : Mu) : dRet  t e m = rsOf e (t e m) fun d m1 => .rt d m1 := rfl
@[simp ↓] theorem dStuck_ap (x_0 : En) (x_1 : Mu) : dStuck  x_0 x_1 = .stuck := rfl
@[simp ↓] theorem dDrop_ap (t : DE) (e : En) (m : Mu) : dDrop  t e m = rsOf e (t e m) fun _ m1 => .nx e m1 := rfl
@[simp ↓] theorem dSet_ap (i : Nat) (t : DE) (e : En) (m : Mu) : dSet  i t e m = rsOf e (t e m) fun d m1 => .nx (e.set i (some d)) m1 := rfl
@[simp ↓] theorem dIfS_ap (t : DT) (u w : DS) (e : En) (m : Mu) : dIfS  t u w e m = rsOfB e (t e m) fun b m1 => if b then u e m1 else w e m1 := rfl
@[simp ↓] theorem dName_ap (i : Nat) (d : D) (e : En) : dName  i d e = some (e.set i (some d)) := rfl
@[simp ↓] theorem dGnil_ap (ds : List D) (e : En) : dGnil  ds e = match ds with
  | [] => some e
  | _ => none := rfl
@[simp ↓] theorem dGcons_ap (g : DG) (h : List D → En → Option En) (ds : List D) (e : En) : dGcons  g h ds e = match ds with
  | d :: r => (g d e).bind fun e1 => h r e1
  | [] => none := rfl
@[simp ↓] theorem dTupG_ap (n : Nat) (g : List D → En → Option En) (d : D) (e : En) : dTupG  n g d e = match d with
  | .tup ds => if ds.length = n then g ds e else none
  | _ => none := rfl
@[simp ↓] theorem dAsg_ap (t : DE) (g : DG) (e : En) (m : Mu) : dAsg  t g e m = rsOf e (t e m) fun d m1 => match g d e with
  | some e1 => .nx e1 m1
  | none => .stuck := rfl
@[simp ↓] theorem dPar_ap (i j : Nat) (t : DA) (e : En) (m : Mu) : dPar  i j t e m = match t e m with
  | .ok [x, y] m1 => .nx ((e.set i (some x)).set j (some y)) m1
  | .exc C fs m1 => .exc C fs e m1
  | _ => .stuck := rfl
@[simp ↓] theorem dItL_ap (t : DE) (e : En) (m : Mu) : dItL  t e m = (t e m).bind fun d m1 => match d with
  | .lst ds => .ok ds m1
  | _ => .stuck := rfl
@[simp ↓] theorem dItT_ap (t : DE) (e : En) (m : Mu) : dItT  t e m = (t e m).bind fun d m1 => match d with
  | .tup ds => .ok ds m1
  | _ => .stuck := rfl
@[simp ↓] theorem dItR1_ap (t : DA) (e : En) (m : Mu) : dItR1  t e m = (t e m).bind fun ds m1 => match ds with
  | [.int j] => if -(2 ^ 62) ≤ j ∧ j < 2 ^ 62 then .ok (rngD 0 j.toNat) m1 else .stuck
  | _ => .stuck := rfl
@[simp ↓] theorem dItR2_ap (t : DA) (e : En) (m : Mu) : dItR2  t e m = (t e m).bind fun ds m1 => match ds with
  | [.int i, .int j] => if -(2 ^ 62) ≤ i ∧ i < 2 ^ 62 ∧ -(2 ^ 62) ≤ j ∧ j < 2 ^ 62 then .ok (rngD i (j - i).toNat) m1 else .stuck
  | _ => .stuck := rfl
@[simp ↓] theorem dItE_ap (t : DA) (e : En) (m : Mu) : dItE  t e m = (t e m).bind fun ds m1 => match ds with
  | [.lst es] => .ok ((List.range es.length).zipWith (fun k d => .tup [.int (k : Nat), d]) es) m1
  | _ => .stuck := rfl
@[simp ↓] theorem dItZ_ap (t : DA) (e : En) (m : Mu) : dItZ  t e m = (t e m).bind fun ds m1 => match ds with
  | [.lst xs, .lst ys] => .ok (xs.zipWith (fun x y => .tup [x, y]) ys) m1
  | [.tup xs, .tup ys] => .ok (xs.zipWith (fun x y => .tup [x, y]) ys) m1
  | _ => .stuck := rfl
@[simp ↓] theorem dFor_ap (t : DA) (g : DG) (b : DS) (e : En) (m : Mu) : dFor  t g b e m = match t e m with
  | .ok ds m1 => dLoop g b ds e m1
  | .exc C fs m1 => .exc C fs e m1
  | .stuck => .stuck := rfl
@[simp ↓] theorem dComp_ap (t : DA) (g : DG) (c : DT) (b : DE) (own : List Nat) (e : En) (m : Mu) : dComp  t g c b own e m = (t e m).bind fun ds m1 => (dCompL g c b (wipeE e own) ds m1 []).bind fun xs m2 => .ok (.lst xs) m2 := rfl
@[simp ↓] theorem dYes_ap (x_0 : En) (m : Mu) : dYes  x_0 m = .ok true m := rfl
@[simp ↓] theorem dPutI_ap (tv to ti : DE) (e : En) (m : Mu) : dPutI  tv to ti e m = rsOf e (tv e m) fun v m1 => rsOf e (to e m1) fun o m2 => rsOf e (ti e m2) fun i m3 => match o, i with
  | .loc n, .int k => match m3[n]? with
    | some (.lst ds) => match ixN ds.length k with
      | some j => .nx e (m3.set n (.lst (ds.set j v)))
      | none => .stuck
    | _ => .stuck
  | _, _ => .stuck := rfl
@[simp ↓] theorem dPutF_ap (Cs : List Addr) (f : Str) (tv to : DE) (e : En) (m : Mu) : dPutF  Cs f tv to e m = rsOf e (tv e m) fun v m1 => rsOf e (to e m1) fun o m2 => match o with
  | .loc n => match m2[n]? with
    | some (.ins C fs) => if C ∈ Cs ∧ fs.length < 1000 then .nx e (m2.set n (.ins C (putD f v fs))) else .stuck
    | _ => .stuck
  | _ => .stuck := rfl
@[simp ↓] theorem dIsi_ap (A : Ans) (ta : DE) (e : En) (m : Mu) : dIsi  A ta e m = (ta e m).bind fun d m1 => match (tagOf m1 d).bind A.get with
  | some b => .ok (.bl b) m1
  | none => .stuck := rfl
@[simp ↓] theorem dFunK_ap (G : DFn) (n nk : Nat) (t u : DA) (e : En) (m : Mu) : dFunK  G n nk t u e m = (t e m).bind fun ds m1 => (u e m1).bind fun zs m2 => if ds.length = n ∧ zs.length = nk then G (ds ++ zs) m2 else .stuck := rfl
@[simp ↓] theorem dPar3_ap (i j l : Nat) (t : DA) (e : En) (m : Mu) : dPar3  i j l t e m = match t e m with
  | .ok [x, y, z] m1 => .nx (((e.set i (some x)).set j (some y)).set l (some z)) m1
  | .exc C fs m1 => .exc C fs e m1
  | _ => .stuck := rfl
@[simp ↓] theorem bind_pre {α β : Type} (r : Res α) (f : α → Mu → Res β) : r.bind f = match r with
  | .stuck => .stuck
  | .ok a m => f a m
  | .exc C fs m => .exc C fs m := rfl
@[simp ↓] theorem rsOf_pre (e : En) (r : Res D) (k : D → Mu → RS) : rsOf e r k = match r with
  | .stuck => .stuck
  | .ok d m => k d m
  | .exc C fs m => .exc C fs e m := rfl
@[simp ↓] theorem rsOfB_pre (e : En) (r : Res Bool) (k : Bool → Mu → RS) : rsOfB e r k = match r with
  | .stuck => .stuck
  | .ok d m => k d m
  | .exc C fs m => .exc C fs e m := rfl
@[simp] theorem gIx_lst (m : Mu) (ds : List D) (i : Int) : gIx (.lst ds) (.int i) m = match atI ds i with
  | some d => .ok d m
  | none => .stuck := rfl
@[simp] theorem gIx_tup (m : Mu) (ds : List D) (i : Int) : gIx (.tup ds) (.int i) m = match atI ds i with
  | some d => .ok d m
  | none => .stuck := rfl
@[simp] theorem gEq_int (m : Mu) (i j : Int) : gEq (.int i) (.int j) m = .ok (.bl (decide (i = j))) m := by simp [gEq, scEq]
@[simp] theorem gNe_int (m : Mu) (i j : Int) : gNe (.int i) (.int j) m = .ok (.bl (!decide (i = j))) m := by simp [gNe, scEq]
@[simp] theorem gEq_bl (m : Mu) (i j : Bool) : gEq (.bl i) (.bl j) m = .ok (.bl (i == j)) m := by simp [gEq, scEq]
@[simp] theorem gNe_bl (m : Mu) (i j : Bool) : gNe (.bl i) (.bl j) m = .ok (.bl (!(i == j))) m := by simp [gNe, scEq]
@[simp] theorem gEq_str (m : Mu) (i j : Str) : gEq (.str i) (.str j) m = .ok (.bl (decide (i = j))) m := by simp [gEq, scEq]
@[simp] theorem gNe_str (m : Mu) (i j : Str) : gNe (.str i) (.str j) m = .ok (.bl (!decide (i = j))) m := by simp [gNe, scEq]
@[simp] theorem powOk_def (i j : Int) : powOk i j = decide (0 ≤ j ∧ j ≤ 1000000 ∧ i.natAbs < 2 ^ 64) := rfl
@[simp] theorem ixN_lit (n : Nat) (i : Nat) : ixN n (no_index (@OfNat.ofNat Int i _)) = if i < n then some i else none := by
  have e : (@OfNat.ofNat Int i _) = (i : Int) := rfl
  unfold ixN
  rw [e, if_pos (by omega)]
  by_cases h : i < n
  · rw [if_pos (by omega), if_pos h, Int.toNat_natCast]
  · rw [if_neg (by omega), if_neg h]
@[simp] theorem rsOf_ok (e : En) (d : D) (m : Mu) (k : D → Mu → RS) : rsOf e (.ok d m) k = k d m := rfl
@[simp] theorem rsOf_exc (e : En) (C : Addr) (fs : List (Str × D)) (m : Mu) (k : D → Mu → RS) : rsOf e (.exc C fs m) k = .exc C fs e m := rfl
@[simp] theorem rsOfB_ok (e : En) (d : Bool) (m : Mu) (k : Bool → Mu → RS) : rsOfB e (.ok d m) k = k d m := rfl
@[simp] theorem rsOfB_exc (e : En) (C : Addr) (fs : List (Str × D)) (m : Mu) (k : Bool → Mu → RS) : rsOfB e (.exc C fs m) k = .exc C fs e m := rfl
@[simp] theorem seqL_lst (m : Mu) (ds : List D) : seqL m (.lst ds) = some ds := rfl
@[simp] theorem seqA_lst (m : Mu) (ds : List D) : seqA m (.lst ds) = some ds := rfl
@[simp] theorem seqA_tup (m : Mu) (ds : List D) : seqA m (.tup ds) = some ds := rfl
@[simp] theorem seqA_loc (m : Mu) (n : Nat) : seqA m (.loc n) = match m[n]? with
  | some (.lst ds) => some ds
  | _ => none := by
  simp only [seqA, seqL]
  cases m[n]? with
  | none => rfl
  | some o => cases o <;> rfl
@[simp] theorem gIx_loc (m : Mu) (n : Nat) (i : Int) : gIx (.loc n) (.int i) m = match m[n]? with
  | some (.lst ds) => (match atI ds i with
    | some d => .ok d m
    | none => .stuck)
  | _ => .stuck := by
  have h : gIx (.loc n) (.int i) m = match seqA m (.loc n) with
    | some ds => (match atI ds i with
      | some d => .ok d m
      | none => .stuck)
    | none => .stuck := rfl
  rw [h, seqA_loc]
  cases m[n]? with
  | none => rfl
  | some o => cases o <;> rfl
@[simp] theorem insOf_obj (m : Mu) (c : Kl) (ds : List D) : insOf m (.obj c ds) = some (c.a, c.ns, ds) := rfl
@[simp] theorem insOf_loc (m : Mu) (n : Nat) : insOf m (.loc n) = match m[n]? with
  | some (.ins C fs) => some (C, fs.map (·.1), fs.map (·.2))
  | _ => none := rfl
@[simp] theorem fldAt_nil (C : Addr) (ns : List Str) (ds : List D) : fldAt [] C ns ds = none := rfl
@[simp] theorem fldAt_cons (c : Kl) (i : Nat) (rest : List (Kl × Nat)) (C : Addr) (ns : List Str) (ds : List D) : fldAt ((c, i) :: rest) C ns ds = if C = c.a ∧ ns = c.ns then ds[i]? else fldAt rest C ns ds := rfl
@[simp] theorem methAt_nil (C : Addr) (ns : List Str) : methAt [] C ns = none := rfl
@[simp] theorem methAt_cons (c : Kl) (G : DFn) (rest : List (Kl × DFn)) (C : Addr) (ns : List Str) : methAt ((c, G) :: rest) C ns = if C = c.a ∧ ns = c.ns then some G else methAt rest C ns := rfl
@[simp] theorem noExc_ok (d : D) (m : Mu) : noExc (.ok d m) = .ok d m := rfl
@[simp] theorem dLoop_nil (g : DG) (b : DS) (e : En) (m : Mu) : dLoop g b [] e m = .nx e m := rfl
@[simp] theorem dCompL_nil (g : DG) (c : DT) (b : DE) (e : En) (m : Mu) (acc : List D) : dCompL g c b e [] m acc = .ok acc m := rfl
@[simp] theorem wipeE_nil (e : En) : wipeE e [] = e := rfl
@[simp] theorem wipeE_cons (e : En) (v : Nat) (vs : List Nat) : wipeE e (v :: vs) = (wipeE e vs).set v none := rfl
@[simp] theorem atI_nat {α : Type} (xs : List α) (i : Nat) : atI xs (i : Int) = xs[i]? := by
  unfold atI ixN
  rw [if_pos (by omega)]
  by_cases h : i < xs.length
  · rw [if_pos (by omega)]; simp
  · rw [if_neg (by omega)]; simp; omega
@[simp] theorem atI_lit {α : Type} (xs : List α) (i : Nat) : atI xs (no_index (@OfNat.ofNat Int i _)) = xs[i]? := atI_nat xs i

end
end DL

namespace DL
open PySem PySem.Spec PyProof.Rows L2
variable [LamTab]
theorem dCompL_map {g : DG} {c : DT} {b : DE} {e : En} {m : Mu} (f : D → D) : ∀ (ds acc : List D), (∀ d ∈ ds, ∃ e1, g d e = some e1 ∧ c e1 m = .ok true m ∧ b e1 m = .ok (f d) m) → acc.length + ds.length ≤ sizeLine → dCompL g c b e ds m acc = .ok (acc ++ ds.map f) m
  | [], acc, _, _ => by simp
  | d :: ds, acc, h, hl => by
    obtain ⟨e1, h1, h2, h3⟩ := h d (by simp)
    have ih := dCompL_map f ds (acc ++ [f d]) (fun x hx => h x (by simp [hx])) (by simp at hl ⊢; omega)
    unfold dCompL
    rw [h1]
    simp only [h2, h3]
    rw [if_pos (by simp at hl; omega), ih]
    simp
theorem dCompL_filter {g : DG} {c : DT} {b : DE} {e : En} {m : Mu} (p : D → Bool) (f : D → D) : ∀ (ds acc : List D), (∀ d ∈ ds, ∃ e1, g d e = some e1 ∧ c e1 m = .ok (p d) m ∧ (p d = true → b e1 m = .ok (f d) m)) → acc.length + ds.length ≤ sizeLine → dCompL g c b e ds m acc = .ok (acc ++ (ds.filter p).map f) m
  | [], acc, _, _ => by simp
  | d :: ds, acc, h, hl => by
    obtain ⟨e1, h1, h2, h3⟩ := h d (by simp)
    unfold dCompL
    rw [h1]
    simp only [h2]
    cases hp : p d with
    | true =>
      have ih := dCompL_filter p f ds (acc ++ [f d]) (fun x hx => h x (by simp [hx])) (by simp at hl ⊢; omega)
      simp only [h3 hp]
      rw [if_pos (by simp at hl; omega), ih]
      simp [hp]
    | false =>
      have ih := dCompL_filter p f ds acc (fun x hx => h x (by simp [hx])) (by simp at hl ⊢; omega)
      simp only []
      rw [ih]
      simp [hp]
/-- a loop keeps I, each pass goes on -/
theorem dLoop_inv {g : DG} {b : DS} (I : En → Mu → Prop) : ∀ (ds : List D) (e : En) (m : Mu), (∀ d ∈ ds, ∀ e m, I e m → ∃ e1 e2 m2, g d e = some e1 ∧ b e1 m = .nx e2 m2 ∧ I e2 m2) → I e m → ∃ e2 m2, dLoop g b ds e m = .nx e2 m2 ∧ I e2 m2
  | [], e, m, _, h => ⟨e, m, rfl, h⟩
  | d :: ds, e, m, hs, h => by
    obtain ⟨e1, e2, m2, h1, h2, h3⟩ := hs d (by simp) e m h
    obtain ⟨e3, m3, h4, h5⟩ := dLoop_inv I ds e2 m2 (fun x hx => hs x (by simp [hx])) h3
    refine ⟨e3, m3, ?_, h5⟩
    unfold dLoop
    rw [h1]
    simp only [h2]
    exact h4
/-- the same, I knows what was walked -/
theorem dLoop_inv2 {g : DG} {b : DS} (I : List D → En → Mu → Prop) : ∀ (ds pre : List D) (e : En) (m : Mu), (∀ pre d post, pre ++ d :: post = pre ++ d :: post → ∀ e m, I pre e m → d ∈ ds → ∃ e1 e2 m2, g d e = some e1 ∧ b e1 m = .nx e2 m2 ∧ I (pre ++ [d]) e2 m2) → I pre e m → ∃ e2 m2, dLoop g b ds e m = .nx e2 m2 ∧ I (pre ++ ds) e2 m2
  | [], pre, e, m, _, h => ⟨e, m, rfl, by simpa using h⟩
  | d :: ds, pre, e, m, hs, h => by
    obtain ⟨e1, e2, m2, h1, h2, h3⟩ := hs pre d ds rfl e m h (by simp)
    obtain ⟨e3, m3, h4, h5⟩ := dLoop_inv2 I ds (pre ++ [d]) e2 m2 (fun p x q hx e m hi hm => hs p x q hx e m hi (by simp [hm])) h3
    refine ⟨e3, m3, ?_, by simpa using h5⟩
    unfold dLoop
    rw [h1]
    simp only [h2]
    exact h4
/-- plain data of bounded depth: what _law_like may meet -/
def plainD : Nat → D → Prop
  | 0, _ => False
  | _ + 1, .non => True
  | _ + 1, .bl _ => True
  | _ + 1, .int _ => True
  | _ + 1, .str _ => True
  | n + 1, .tup ds => ds.length ≤ sizeLine ∧ ∀ d ∈ ds, plainD n d
  | n + 1, .lst ds => ds.length ≤ sizeLine ∧ ∀ d ∈ ds, plainD n d
  | _ + 1, _ => False
theorem toBs_trues : ∀ n : Nat, toBs (List.replicate n (.bl true)) = some (List.replicate n true)
  | 0 => rfl
  | n + 1 => by simp [List.replicate_succ, toBs, toBs_trues n]
theorem toBs_map (f : D → Bool) : ∀ ds : List D, toBs (ds.map fun d => .bl (f d)) = some (ds.map f)
  | [] => rfl
  | d :: ds => by simp [toBs, toBs_map f ds]
end DL

namespace DL
open PySem PySem.Spec PyProof.Rows L2
variable [LamTab]
section
variable {X : Cx} {a b c e o : Expr} {es : List Expr} {ta tb tc : DE} {t : DA} {pos : Pos} {k : Nat}
/-! ### a list and a list -/
theorem op_catS : OpR X (binaryOp .Add) (fun x y H Q => ∃ l b xs zs, x = .ref l ∧ y = .ref b ∧ SqL X.K H l xs ∧ SqL X.K H b zs ∧ xs.length + zs.length ≤ sizeLine ∧ ∀ p, H p = none → Q (.ref p) (upd H p (.lst (xs ++ zs)))) := by
  intro pins s σ H x y v u Q I rx ry h
  obtain ⟨l, b, xs, zs, rfl, rfl, hH, hB, hz, q⟩ := h
  cases rx
  cases ry
  obtain ⟨its, r1, ⟨⟨cls, dd, data, sl⟩, n, e1, hc1, hd1, hs1⟩, _⟩ := I.list hH
  obtain ⟨its2, r2, ⟨⟨cls2, dd2, data2, sl2⟩, n2, e2, hc2, hd2, hs2⟩, _⟩ := I.list hB
  simp only at hc1 hs1 hc2 hs2
  subst hc1 hs1 hc2 hs2
  have l1 := r1.length
  have l2 := r2.length
  have ea : its.toArray ++ its2.toArray = (its ++ its2).toArray := by simp
  refine concat_meets ⟨_, e1, rfl⟩ ⟨_, e2, rfl⟩ noFill_list_add seq_list_add PySem.F.slot_list_add PySem.F.entry_list_add (PySem.F.args_list_add_2 _ _) (list_addW l b its.toArray its2.toArray n n2 dd dd2 sl sl2 (by simp; omega)) ⟨e1, e2, ?_⟩
  rw [ea]
  exact ⟨.ref _, _, I.lnew (t' := s.toks) (r1.append r2) (by rw [List.length_append]; omega), rfl, q _ I.fresh⟩
def gCat : D2 := fun x y m => match seqL m x, seqL m y with
  | some xs, some ys => if xs.length + ys.length ≤ sizeLine then .ok (.lst (xs ++ ys)) m else .stuck
  | _, _ => .stuck
theorem od_cat : OD X (binaryOp .Add) gCat := by
  refine od_of op_catS fun S m x y vx vy Q W sa rx ry p => ?_
  unfold gCat at p
  split at p
  · rename_i xs ys e1 e2
    split at p
    · rename_i hl
      obtain ⟨l, us, rfl, h1, r1⟩ := seqL_ok sa rx e1
      obtain ⟨l2, ws, rfl, h2, r2⟩ := seqL_ok sa ry e2
      refine ⟨l, l2, us, ws, rfl, rfl, h1, h2, by rw [← r1.len, ← r2.len]; exact hl, fun p' hp => ?_⟩
      have st1 := Stp.new sa (o := .lst (us ++ ws)) hp
      exact p (.ref p') (S.new p' (.lst (us ++ ws))) st1 (sa.new hp) (.lst (.inl (.inl upd_same)) ((r1.append r2).stp st1))
    · exact p.elim
  · exact p.elim
/-- the same into the store -/
def gCatM : D2 := fun x y m => match seqL m x, seqL m y with
  | some xs, some ys => if xs.length + ys.length ≤ sizeLine then .ok (.loc m.length) (m ++ [.lst (xs ++ ys)]) else .stuck
  | _, _ => .stuck
theorem od_catM : OD X (binaryOp .Add) gCatM := by
  refine od_of op_catS fun S m x y vx vy Q W sa rx ry p => ?_
  unfold gCatM at p
  split at p
  · rename_i xs ys e1 e2
    split at p
    · rename_i hl
      obtain ⟨l, us, rfl, h1, r1⟩ := seqL_ok sa rx e1
      obtain ⟨l2, ws, rfl, h2, r2⟩ := seqL_ok sa ry e2
      refine ⟨l, l2, us, ws, rfl, rfl, h1, h2, by rw [← r1.len, ← r2.len]; exact hl, fun p' hp => ?_⟩
      have st1 := Stp.tok sa (o := .lst (us ++ ws)) hp
      refine p (.ref p') (S.tok p' (.lst (us ++ ws))) st1 (sa.tok hp (q := .lst (xs ++ ys)) ⟨us ++ ws, upd_same, (r1.append r2).stp st1⟩) (.loc ?_)
      show (S.i ++ [p'])[m.length]? = some p'
      rw [← sa.len, List.getElem?_append_right (Nat.le_refl _), Nat.sub_self]
      rfl
    · exact p.elim
  · exact p.elim
/-! ### truth of own objects -/
abbrev MRow (P : Program) (w : World) (K : PySem.W.Frag) (mg : Str → Option Value) (base : Heap) (k : Nat) (mn : Str) : Kl → DFn → Prop := fun c G => MT P w K mg base k mn c.a G
def dTrO (rows : List (Kl × DFn)) (t : DE) : DT := fun e m => (t e m).bind fun d m => match dTru m d with
  | some b => .ok b m
  | none => match insOf m d with
    | some (C, ns, _) => match methAt rows C ns with
      | some G => (G [d] m).bind fun r m => match r with
        | .bl b => .ok b m
        | _ => .stuck
      | none => .stuck
    | none => .stuck
theorem boolBack {pins : List (Addr × Obj)} {σ : L2.St} {Q : Bool → Shared → Prop} {v : Value} {s : Shared} (h : EP X pins σ (fun v H => ∃ b, v = .bl b ∧ ∀ s, Inv X pins σ H s → Q b s) v s) : PySem.W.BoolBack Q v s := by
  obtain ⟨y, H, I, r, b, rfl, q⟩ := h
  cases r
  exact q s I
theorem pdt_truthO {rows : List (Kl × DFn)} (ha : PDE X a ta) (hrows : ∀ r ∈ rows, MRow X.prog X.w X.K X.mg X.base k "__bool__" r.1 r.2) (hr : Room k X.A) (he : ∀ whole, isTrue a X.env whole = (do let v ← whole; standAt a.pos; holding [v] (truthy v)) := by intro _; rfl) : PDT X a (dTrO rows ta) := by
  intro S r m σ Q sa re p pins s I
  refine isTrue_plain (thn (ha.run sa re p I) ?_) (he _)
  rintro u s1 ⟨x, d, m1, T, st, sa1, rd, rx, I1, q⟩
  split at q
  · rename_i b e
    exact tru_ok pins s1 σ T.H x u Q I1 rx ⟨b, dTru_ok sa1 rd e, Post.ok q (Stp.refl T) sa1 rfl⟩
  · split at q
    · rename_i C ns ds ei
      split at q
      · rename_i G eG
        obtain ⟨c, ok, rfl, rfl⟩ := methAt_ok (P := MRow X.prog X.w X.K X.mg X.base k "__bool__") hrows eG
        obtain ⟨a, dx, vs, rfl, h1, h2, h3⟩ := insOf_ok sa1 rd ei
        obtain ⟨f, fd, ps, dds, G0, hf1, hf2, hk, hf, hb, rfl⟩ := ok.ex
        obtain rfl : u = Value.ref a := rx
        obtain ⟨od1, J1⟩ := Inv.inst I1 h1
        obtain ⟨mm, F⟩ := I1.fr
        refine PySem.W.truthy_K F I1.ok.mod.kin J1 hf1 hf2 (thn (run_fnA (us := [.ref a]) hf hr hb rfl I1 sa1 (.cons rd .nil) (.cons rfl .nil) (Post.bindI q fun r m2 v U st2 sa2 rv q2 => ?_)) fun v s2 h => boolBack (pins := pins) (σ := σ) h)
        cases rv with
        | bl b => exact ⟨b, rfl, fun s I => ⟨U.H, I, Post.ok q2 (Stp.refl U) sa2 rfl⟩⟩
        | _ => exact (show False from q2).elim
      · exact (show False from q).elim
    · exact (show False from q).elim
end
end DL

namespace DL
open PySem PySem.Spec PySem.Calls PyProof.Rows L2
variable [LamTab]
open PySem.W (InstAt findIn isFn mroIn)
/-! ### != by the default, which asks == -/
section
variable {prog : Program} {w : World} {A : Around} {E : Value → Shared → Prop} {s : Shared} {K : PySem.W.Frag} {x C L f : Addr} {h₀ : Heap} {m : Str → Option Value} {ox : Obj} {od : Option Obj} {b tb : Value}
theorem ifBound_S {M : Model} {name : Str} {id : String} {args : List Value} {Q : Option Value → Shared → Prop} (X : K.In s.heap) (I : InstAt s.heap x ox C od) (hs : findIn K (.ref C) name = some (some (.builtin id)))
    (hb : ∀ self, bindSpecial (.builtin id) self = pure (.builtin id, [self])) (h : wpAny M A (call (.builtin id) (.ref x :: args)) (fun v => Q (some v)) E s) : wpAny M A (callSpecialIfBound? (.ref x) name args) Q E s := by
  simp only [callSpecialIfBound?, bindSpecialIfBound?]
  refine wpAny_holding (wpAny_bind (wpAny_bind (wpAny_bind (I.type.here ((PySem.W.looks_findIn X hs).here ?_)))))
  refine wpAny_bind (wpAny_askSetting (wpAny_ite ?_))
  have fin : wpAny M A (call (.builtin id) ([.ref x] ++ args) >>= fun v => pure (some v)) Q E s := wpAny_bind (wpAny_mono h (fun v s' h' => wpAny_pure h') fun _ _ h' => h')
  split
  · exact wpAny_bind ((PySem.W.Looks.of_pure (hb _)).here (wpAny_pure (by exact fin)))
  · exact wpAny_tryCatch (wpAny_bind ((PySem.W.Looks.of_pure (hb _)).here (wpAny_pure (by exact fin))))
theorem ne_K {Q : Value → Shared → Prop} (hu : A.units + 1 < cLine) (F : Fr h₀ L s.heap m) (X₀ : K.In h₀) (I : InstAt s.heap x ox C od) (hb : PySem.W.Looks (model prog w) s.heap (typeOf b) tb) (hn : PySem.W.notFirst K C tb = true)
    (hne : findIn K (.ref C) "__ne__" = some (some (.builtin "object.__ne__"))) (hm : mroIn K C (.type "object") = some true)
    (hs : findIn K (.ref C) "__eq__" = some (some (.ref f))) (hf : isFn K (.ref f) = true)
    (h : wpAny (model prog w) A.in1 (call (.ref f) [.ref x, b]) (fun v s' => ∃ r, v = .bool r ∧ Q (.bool (!r)) s') E s) : wpAny (model prog w) A (richCompare .NotEq (.ref x) b) Q E s := by
  have X := X₀.keeps F.keep
  have one : wpAny (model prog w) A (tryCompare (.ref x) (cmpInfo .NotEq).2.1 b) (fun r s' => ∃ v, r = some v ∧ Q v s') E s := by
    unfold tryCompare
    refine wpAny_bind (ifBound_S X I hne PySem.F.slot_object_ne.bind ?_)
    refine wpAny_call (codeAny_call_builtin PySem.F.slot_object_ne.plain PySem.F.entry_object_ne (PySem.W.check_slot (i := "object.__ne__") (owner := "object") (n := "__ne__") (by decide +kernel) (by decide +kernel) (I.type.andThen (PySem.W.looks_mroIn X hm)) (PySem.F.args_object_ne_2 _ _) ?_))
    unfold Builtin.«object.__ne__»
    refine wpAny_bind (m := slotArgs "__ne__" 1 _) (wpAny_pure ?_)
    refine wpAny_bind (m := cRoomFor _ _) (wpAny_cRoomFor (by show A.units + 1 < cLine; exact hu) ?_)
    refine wpAny_bind (m := callSpecialIfBound? (.ref x) "__eq__" _) (PySem.W.ifBound_K X I hs hf (wpAny_mono h (fun r s' hq => ?_) fun _ _ y => y))
    obtain ⟨r, rfl, q⟩ := hq
    refine wpAny_bind (wpAny_truthy_bool ?_)
    exact wpAny_pure (wpAny_pure ⟨_, rfl, q⟩)
  unfold richCompare
  simp only [oneThing_ref]
  refine wpAny_holding (wpAny_bind (wpAny_cRoomFor (by omega) ?_))
  refine wpAny_bind (I.type.here (wpAny_bind (hb.here ?_)))
  split
  · rename_i q
    have e : PySem.W.subIn K tb (.ref C) = some false := by
      rcases Bool.or_eq_true_iff.mp hn with e | e
      · rw [beq_iff_eq.mp e] at q; simp at q
      · exact beq_iff_eq.mp e
    refine wpAny_bind ((PySem.W.looks_subIn X e).here ?_)
    simp only [Bool.false_eq_true, if_false]
    refine wpAny_bind (wpAny_mono one (fun r s' z => ?_) fun _ _ e => e)
    obtain ⟨v, rfl, hq⟩ := z
    exact wpAny_pure hq
  · refine wpAny_bind (wpAny_pure ?_)
    simp only [Bool.false_eq_true, if_false]
    refine wpAny_bind (wpAny_mono one (fun r s' z => ?_) fun _ _ e => e)
    obtain ⟨v, rfl, hq⟩ := z
    exact wpAny_pure hq
end
section
variable {X : Cx} {a b c e o : Expr} {es : List Expr} {ta tb tc : DE} {t : DA} {pos : Pos} {k : Nat}
theorem tag_looks {pins : List (Addr × Obj)} {σ : L2.St} {s : Shared} {S : Wd} {m : Mu} {d : D} {v : V} {u : Value} {t : Tg} (I : Inv X pins σ S.H s) (sa : Sta X.K S m) (r : Rep X.K S.i S.F d v) (rv : RelV v u) (ht : tagOf m d = some t) :
    PySem.W.Looks (model X.prog X.w) s.heap (typeOf u) t.val := by
  have pr : ∀ {ty : Value}, TyX X.K S.H v ty → PySem.W.Looks (model X.prog X.w) s.heap (typeOf u) ty := fun ty => by
    obtain ⟨P, Z, p, _⟩ := kit_of I rv ty
    exact Z.ty _ _ I.kIn p
  have ow : ∀ {a C dx : Addr} {fs : List (Str × V)}, v = .ref a → S.H a = some (.ins C dx fs) → PySem.W.Looks (model X.prog X.w) s.heap (typeOf u) (.ref C) := fun {a C dx fs} e h => by
    subst e
    obtain rfl : u = Value.ref a := rv
    obtain ⟨od, J⟩ := Inv.inst I h
    exact J.type
  cases r with
  | non => cases ht; exact pr (.base .non)
  | bl x => cases ht; exact pr (.base (.bl x))
  | int x => cases ht; exact pr (.base (.int x))
  | str x => cases ht; exact pr (.base (.str x))
  | tup h1 h2 => cases ht; exact pr (SqT.tyx (SqT.ext' h1 sa.sub))
  | lst h1 h2 => cases ht; exact pr (SqL.tyx (SqL.ext' h1 sa.sub))
  | obj h1 h2 h3 => cases ht; exact ow rfl (sa.sub _ _ h1)
  | @loc n a h =>
    unfold tagOf at ht
    dsimp only at ht
    split at ht
    · rename_i ds e
      cases ht
      obtain ⟨xs, q1, q2⟩ := sa.ok n a _ h e
      exact pr (.base (.lst q1))
    · rename_i C fs e
      cases ht
      obtain ⟨dx, vs, q1, q2⟩ := sa.ok n a _ h e
      exact ow rfl q1
    · cases ht
  | val v => cases ht
  | xob h1 h2 h3 => cases ht
  | lam h => cases ht
  | clo h h2 h3 => cases ht
/-! ### == and != by an own __eq__ -/
def eqRow (rows : List (Kl × DFn × List Tg)) (C : Addr) (ns : List Str) : Option (DFn × List Tg) := match rows with
  | [] => none
  | (c, G) :: rest => if C = c.a ∧ ns = c.ns then some G else eqRow rest C ns
theorem eqRow_ok {P : Kl × DFn × List Tg → Prop} : ∀ {rows : List (Kl × DFn × List Tg)} {C : Addr} {ns : List Str} {G : DFn × List Tg}, (∀ r ∈ rows, P r) → eqRow rows C ns = some G → ∃ c, P (c, G) ∧ C = c.a ∧ ns = c.ns
  | [], _, _, _, _, h => by cases h
  | (c, i) :: rest, C, ns, d, hr, h => by
    unfold eqRow at h
    split at h
    · rename_i e
      cases h
      exact ⟨c, hr _ List.mem_cons_self, e.1, e.2⟩
    · exact eqRow_ok (fun r hm => hr r (List.mem_cons_of_mem _ hm)) h
structure EqOk (P : Program) (w : World) (K : PySem.W.Frag) (mg : Str → Option Value) (base : Heap) (k : Nat) (r : Kl × DFn × List Tg) : Prop where
  mt : MT P w K mg base k "__eq__" r.1.a r.2.1
  nf : ∀ t ∈ r.2.2, PySem.W.notFirst K r.1.a t.val = true
structure NeOk (K : PySem.W.Frag) (C : Addr) : Prop where
  ne : findIn K (.ref C) "__ne__" = some (some (.builtin "object.__ne__"))
  ob : mroIn K C (.type "object") = some true
def dOwnEq (neg : Bool) (rows : List (Kl × DFn × List Tg)) : D2 := fun x y m => match insOf m x with
  | some (C, ns, _) => match eqRow rows C ns, tagOf m y with
    | some (G, ts), some t => if t ∈ ts then ((G [x, y] m).bind fun r m1 => match r with
        | .bl b => .ok (.bl (neg ^^ b)) m1
        | _ => .stuck) else .stuck
    | _, _ => .stuck
  | none => .stuck
theorem od_ownEq {rows : List (Kl × DFn × List Tg)} (hrows : ∀ r ∈ rows, EqOk X.prog X.w X.K X.mg X.base k r) (hr : Room k X.A) : OD X (compareOp .Eq) (dOwnEq false rows) := by
  intro pins s σ S m x y vx vy u w Q sa rx ry I hu hw p
  unfold dOwnEq at p
  split at p
  · rename_i C ns ds ei
    split at p
    · rename_i G ts t eG eT
      split at p
      · rename_i ht
        obtain ⟨c, ok, rfl, rfl⟩ := eqRow_ok (P := EqOk X.prog X.w X.K X.mg X.base k) hrows eG
        obtain ⟨a, dx, vs, rfl, h1, h2, h3⟩ := insOf_ok sa rx ei
        obtain ⟨f, fd, ps, dds, G0, hf1, hf2, hk, hf, hb, rfl⟩ := ok.mt.ex
        obtain rfl : u = Value.ref a := hu
        obtain ⟨od1, J1⟩ := Inv.inst I h1
        obtain ⟨mm, F⟩ := I.fr
        refine PySem.W.cmp_K (op := .Eq) hr.units0 F I.ok.mod.kin J1 (tag_looks I sa ry hw eT) (ok.nf t ht) hf1 hf2 (thn (run_fnA (us := [.ref a, w]) hf hr hb rfl I sa (.cons rx (.cons ry .nil)) (.cons rfl (.cons hw .nil)) (Post.bindI p fun r m2 v U st2 sa2 rv q2 => ?_)) fun v s1 h => cmpBack_of h fun h => h)
        cases rv with
        | bl b => (dsimp only at q2; rw [Bool.false_xor] at q2); exact Post.ok q2 (Stp.refl U) sa2 (.bl b)
        | _ => exact (show False from q2).elim
      · exact p.elim
    · exact p.elim
  · exact p.elim
theorem od_ownNe {rows : List (Kl × DFn × List Tg)} (hrows : ∀ r ∈ rows, EqOk X.prog X.w X.K X.mg X.base k r) (hne : ∀ r ∈ rows, NeOk X.K r.1.a) (hr : Room (k + 1) X.A) : OD X (compareOp .NotEq) (dOwnEq true rows) := by
  intro pins s σ S m x y vx vy u w Q sa rx ry I hu hw p
  unfold dOwnEq at p
  split at p
  · rename_i C ns ds ei
    split at p
    · rename_i G ts t eG eT
      split at p
      · rename_i ht
        obtain ⟨c, ⟨ok, nok⟩, rfl, rfl⟩ := eqRow_ok (P := fun r => EqOk X.prog X.w X.K X.mg X.base k r ∧ NeOk X.K r.1.a) (fun r h => ⟨hrows r h, hne r h⟩) eG
        obtain ⟨a, dx, vs, rfl, h1, h2, h3⟩ := insOf_ok sa rx ei
        obtain ⟨f, fd, ps, dds, G0, hf1, hf2, hk, hf, hb, rfl⟩ := ok.mt.ex
        obtain rfl : u = Value.ref a := hu
        obtain ⟨od1, J1⟩ := Inv.inst I h1
        obtain ⟨mm, F⟩ := I.fr
        refine ne_K (by have := hr.un; omega) F I.ok.mod.kin J1 (tag_looks I sa ry hw eT) (ok.nf t ht) nok.ne nok.ob hf1 hf2 (thn (run_fnA (us := [.ref a, w]) hf hr.in1 hb rfl I sa (.cons rx (.cons ry .nil)) (.cons rfl (.cons hw .nil)) (Q := fun v H => ∃ r, v = .bl r ∧ ∀ s, Inv X pins σ H s → EP X pins σ Q (.bool (!r)) s) (Post.bindI p fun r m2 v U st2 sa2 rv q2 => ?_)) fun v s1 h => ?_)
        · cases rv with
          | bl b =>
            (dsimp only at q2; rw [Bool.true_xor] at q2)
            exact ⟨b, rfl, fun s I => ⟨.bl (!b), U.H, I, rfl, Post.ok q2 (Stp.refl U) sa2 (.bl _)⟩⟩
          | _ => exact (show False from q2).elim
        · obtain ⟨y, H, I, r, b, rfl, q⟩ := h
          cases r
          exact ⟨b, rfl, q s1 I⟩
      · exact p.elim
    · exact p.elim
  · exact p.elim
/-! ### in, by an own __contains__ -/
def dOwnIn (neg : Bool) (rows : List (Kl × DFn)) : D2 := fun x y m => match insOf m y with
  | some (C, ns, _) => match methAt rows C ns with
    | some G => (G [y, x] m).bind fun r m1 => match r with
      | .bl b => .ok (.bl (neg ^^ b)) m1
      | _ => .stuck
    | _ => .stuck
  | none => .stuck
theorem od_ownIn {rows : List (Kl × DFn)} (hrows : ∀ r ∈ rows, MRow X.prog X.w X.K X.mg X.base k "__contains__" r.1 r.2) (hr : Room k X.A) : OD X (compareOp .In) (dOwnIn false rows) := by
  intro pins s σ S m x y vx vy u w Q sa rx ry I hu hw p
  unfold dOwnIn at p
  split at p
  · rename_i C ns ds ei
    split at p
    · rename_i G eG
      obtain ⟨c, ok, rfl, rfl⟩ := methAt_ok (P := MRow X.prog X.w X.K X.mg X.base k "__contains__") hrows eG
      obtain ⟨a, dx, vs, rfl, h1, h2, h3⟩ := insOf_ok sa ry ei
      obtain ⟨f, fd, ps, dds, G0, hf1, hf2, hk, hf, hb, rfl⟩ := ok.ex
      obtain rfl : w = Value.ref a := hw
      obtain ⟨od1, J1⟩ := Inv.inst I h1
      obtain ⟨mm, F⟩ := I.fr
      refine PySem.W.in_K F I.ok.mod.kin J1 hf1 hf2 (thn (run_fnA (us := [.ref a, u]) hf hr hb rfl I sa (.cons ry (.cons rx .nil)) (.cons rfl (.cons hu .nil)) (Q := fun v H => ∃ r, v = .bl r ∧ ∀ s, Inv X pins σ H s → EP X pins σ Q (.bool r) s) (Post.bindI p fun r m2 v U st2 sa2 rv q2 => ?_)) fun v s1 h => ?_)
      · cases rv with
        | bl b => (dsimp only at q2; rw [Bool.false_xor] at q2); exact ⟨b, rfl, fun s I => ⟨.bl b, U.H, I, rfl, Post.ok q2 (Stp.refl U) sa2 (.bl _)⟩⟩
        | _ => exact (show False from q2).elim
      · obtain ⟨y, H, I, r, b, rfl, q⟩ := h
        cases r
        exact wpAny_truthy_bool (q s1 I)
    · exact p.elim
  · exact p.elim
theorem od_ownNotIn {rows : List (Kl × DFn)} (hrows : ∀ r ∈ rows, MRow X.prog X.w X.K X.mg X.base k "__contains__" r.1 r.2) (hr : Room k X.A) : OD X (compareOp .NotIn) (dOwnIn true rows) := by
  intro pins s σ S m x y vx vy u w Q sa rx ry I hu hw p
  unfold dOwnIn at p
  split at p
  · rename_i C ns ds ei
    split at p
    · rename_i G eG
      obtain ⟨c, ok, rfl, rfl⟩ := methAt_ok (P := MRow X.prog X.w X.K X.mg X.base k "__contains__") hrows eG
      obtain ⟨a, dx, vs, rfl, h1, h2, h3⟩ := insOf_ok sa ry ei
      obtain ⟨f, fd, ps, dds, G0, hf1, hf2, hk, hf, hb, rfl⟩ := ok.ex
      obtain rfl : w = Value.ref a := hw
      obtain ⟨od1, J1⟩ := Inv.inst I h1
      obtain ⟨mm, F⟩ := I.fr
      refine PySem.W.notIn_K F I.ok.mod.kin J1 hf1 hf2 (thn (run_fnA (us := [.ref a, u]) hf hr hb rfl I sa (.cons ry (.cons rx .nil)) (.cons rfl (.cons hu .nil)) (Q := fun v H => ∃ r, v = .bl r ∧ ∀ s, Inv X pins σ H s → EP X pins σ Q (.bool (!r)) s) (Post.bindI p fun r m2 v U st2 sa2 rv q2 => ?_)) fun v s1 h => ?_)
      · cases rv with
        | bl b => (dsimp only at q2; rw [Bool.true_xor] at q2); exact ⟨b, rfl, fun s I => ⟨.bl (!b), U.H, I, rfl, Post.ok q2 (Stp.refl U) sa2 (.bl _)⟩⟩
        | _ => exact (show False from q2).elim
      · obtain ⟨y, H, I, r, b, rfl, q⟩ := h
        cases r
        exact wpAny_truthy_bool (q s1 I)
    · exact p.elim
  · exact p.elim
/-! ### len, repr, str, format of own objects -/
theorem strBack {pins : List (Addr × Obj)} {σ : L2.St} {Q : Value → Shared → Prop} {v : Value} {s : Shared} (h : EP X pins σ (fun v H => ∃ x, v = .str x ∧ ∀ t s, Inv X pins σ H s → Q (.str x t) s) v s) : PySem.W.StrBack Q v s := by
  obtain ⟨y, H, I, r, x, rfl, q⟩ := h
  obtain ⟨t, rfl⟩ := r
  exact q t s I
def dOwnStr (rows : List (Kl × DFn)) : DFn := fun ds m => match ds with
  | [x] => match insOf m x with
    | some (C, ns, _) => match methAt rows C ns with
      | some G => (G [x] m).bind fun r m1 => match r with
        | .str z => .ok (.str z) m1
        | _ => .stuck
      | none => .stuck
    | none => .stuck
  | _ => .stuck
theorem ownStr_run {mn : Str} {rows : List (Kl × DFn)} (hrows : ∀ r ∈ rows, MRow X.prog X.w X.K X.mg X.base k mn r.1 r.2) {pins : List (Addr × Obj)} {s : Shared} {σ : L2.St} {S : Wd} {m : Mu} {x : D} {vx : V} {u : Value} {Q : VK} (sa : Sta X.K S m) (rx : Rep X.K S.i S.F x vx) (I : Inv X pins σ S.H s) (hu : RelV vx u)
    (p : PostD X.K S (dOwnStr rows [x] m) Q (fun c d H => Fly X c d σ H)) :
    ∃ (a f C : Addr) (od : Obj) (dx : Addr), u = .ref a ∧ InstAt s.heap a (PySem.W.instObj C dx) C (some od) ∧ findIn X.K (.ref C) mn = some (some (.ref f)) ∧ isFn X.K (.ref f) = true ∧
      ∀ A s', A.frames = X.A.frames → Room k A → Inv X pins σ S.H s' → wpAny (model X.prog X.w) A (call (.ref f) [.ref a]) (PySem.W.StrBack fun v s => EP X pins σ Q v s) X.xe s' := by
  unfold dOwnStr at p
  dsimp only at p
  split at p
  · rename_i C ns ds ei
    split at p
    · rename_i G eG
      obtain ⟨c, ok, rfl, rfl⟩ := methAt_ok (P := MRow X.prog X.w X.K X.mg X.base k mn) hrows eG
      obtain ⟨a, dx, vs, rfl, h1, h2, h3⟩ := insOf_ok sa rx ei
      obtain ⟨f, fd, ps, dds, G0, hf1, hf2, hk, hf, hb, rfl⟩ := ok.ex
      obtain rfl : u = Value.ref a := hu
      obtain ⟨od1, J1⟩ := Inv.inst I h1
      refine ⟨a, f, _, od1, dx, rfl, J1, hf1, hf2, fun A s' hA hr I' => thn (run_fnA (us := [.ref a]) hf hr hb hA I' sa (.cons rx .nil) (.cons rfl .nil) (Post.bindI p fun r m2 v U st2 sa2 rv q2 => ?_)) fun v s1 h => strBack (pins := pins) (σ := σ) h⟩
      cases rv with
      | str z => exact ⟨z, rfl, fun t s I => ⟨.str z, U.H, I, ⟨t, rfl⟩, Post.ok q2 (Stp.refl U) sa2 (.str z)⟩⟩
      | _ => exact (show False from q2).elim
    · exact (show False from p).elim
  · exact (show False from p).elim
theorem oc_reprO {rows : List (Kl × DFn)} (hrows : ∀ r ∈ rows, MRow X.prog X.w X.K X.mg X.base k "__repr__" r.1 r.2) (hr : Room (k + 1) X.A) : OC X (.builtin "repr") (dOwnStr rows) := by
  intro pins s σ S m ds xs us Q sa r rv I p
  match ds, xs, us, r, rv with
  | [x], [vx], [u], .cons rx .nil, .cons hu .nil =>
    obtain ⟨a, f, C, od, dx, rfl, J, h1, h2, run⟩ := ownStr_run hrows sa rx I hu p
    obtain ⟨mm, F⟩ := I.fr
    exact PySem.W.repr_K (by have := hr.un; show X.A.units + 1 < _; omega) F I.ok.mod.kin J h1 h2 (run _ s rfl hr.in1 I)
  | [], _, _, _, _ => exact p.elim
  | _ :: _ :: _, _, _, _, _ => exact p.elim
theorem oc_strO {rows : List (Kl × DFn)} (hrows : ∀ r ∈ rows, MRow X.prog X.w X.K X.mg X.base k "__str__" r.1 r.2) (hr : Room (k + 2) X.A) : OC X (.type "str") (dOwnStr rows) := by
  intro pins s σ S m ds xs us Q sa r rv I p
  match ds, xs, us, r, rv with
  | [x], [vx], [u], .cons rx .nil, .cons hu .nil =>
    obtain ⟨a, f, C, od, dx, rfl, J, h1, h2, run⟩ := ownStr_run hrows sa rx I hu p
    exact PySem.W.kso_call (by have := hr.un; show X.A.units + 1 + 1 < _; omega) I.kIn J h1 h2 (run _ s rfl hr.in1.in1 I)
  | [], _, _, _, _ => exact p.elim
  | _ :: _ :: _, _, _, _, _ => exact p.elim
end
end DL

namespace DL
open PySem PySem.Spec PySem.Calls PyProof.Rows L2
variable [LamTab]
section
variable {X : Cx} {a b c e o : Expr} {es : List Expr} {ta tb tc : DE} {t : DA} {pos p apos : Pos} {k : Nat} {x mn : Str}
/-! ### f-strings -/
def dFmt (rows : List (Kl × DFn)) (t : DE) : DE := fun e m => (t e m).bind fun d m1 => match d with
  | .str y => if y.length ≤ sizeLine then .ok (.str y) m1 else .stuck
  | .int i => if i.natAbs.log2 < 1920 then .ok (.str (toString i)) m1 else .stuck
  | d => dOwnStr rows [d] m1
structure FmtOk (P : Program) (w : World) (K : PySem.W.Frag) (mg : Str → Option Value) (base : Heap) (k : Nat) (c : Kl) (G : DFn) : Prop where
  mt : MT P w K mg base k "__str__" c.a G
  fm : PySem.W.findIn K (.ref c.a) "__format__" = some (some (.builtin "object.__format__"))
  ob : PySem.W.mroIn K c.a (.type "object") = some true
theorem pd_fmt {rows : List (Kl × DFn)} (he : PDE X e ta) (hrows : ∀ r ∈ rows, FmtOk X.prog X.w X.K X.mg X.base k r.1 r.2) (hr : Room (k + 1) X.A) : PDE X (.FormattedValue e (-1) none pos) (dFmt rows ta) := by
  intro S r m σ Q sa re q pins s I
  refine wpAny_FormattedValue_plain (thn (he.run sa re q I) ?_)
  rintro u s1 ⟨x, d, m1, T, st, sa1, rd, rx, I1, q1⟩
  split at q1
  · rename_i y
    cases rd
    split at q1
    · rename_i hz
      obtain ⟨t, rfl⟩ := rx
      have q2 := Post.ok q1 (Stp.refl T) sa1 (.str y)
      exact wpAny_formatField_str ⟨.str y, _, I1, ⟨t, rfl⟩, q2⟩ ⟨.str y, _, I1.tok _, ⟨_, rfl⟩, q2⟩ hz
    · exact (show False from q1).elim
  · rename_i i
    cases rd
    split at q1
    · rename_i hz
      obtain ⟨t, rfl⟩ := rx
      have q2 := Post.ok q1 (Stp.refl T) sa1 (.str _)
      exact wpAny_formatField_int hz ⟨.str (toString i), _, I1.tok _, ⟨_, rfl⟩, q2⟩
    · exact (show False from q1).elim
  · unfold dOwnStr at q1
    dsimp only at q1
    split at q1
    · rename_i C ns ds ei
      split at q1
      · rename_i G eG
        obtain ⟨c, ok, rfl, rfl⟩ := methAt_ok (P := FmtOk X.prog X.w X.K X.mg X.base k) hrows eG
        obtain ⟨a, dx, vs, rfl, h1, h2, h3⟩ := insOf_ok sa1 rd ei
        obtain ⟨f, fd, ps, dds, G0, hf1, hf2, hk, hf, hb, rfl⟩ := ok.mt.ex
        obtain rfl : u = Value.ref a := rx
        obtain ⟨od1, J1⟩ := Inv.inst I1 h1
        refine PySem.W.kfo_fieldS (by have := hr.un; show X.A.units + 1 < _; omega) I1.kIn J1 ok.fm ok.ob hf1 hf2 (thn (run_fnA (us := [.ref a]) hf hr.in1 hb rfl (I1.tok _) sa1 (.cons rd .nil) (.cons rfl .nil) (Post.bindI q1 fun r m2 v U st2 sa2 rv q2 => ?_)) fun v s2 h => strBack (pins := pins) (σ := σ) h)
        cases rv with
        | str z => exact ⟨z, rfl, fun t s I => ⟨.str z, U.H, I, ⟨t, rfl⟩, Post.ok q2 (Stp.refl U) sa2 (.str z)⟩⟩
        | _ => exact (show False from q2).elim
      · exact (show False from q1).elim
    · exact (show False from q1).elim
def dJs : List DE → Str → DE
  | [], acc, _, m => .ok (.str acc) m
  | t :: ts, acc, e, m => (t e m).bind fun d m1 => match d with
    | .str y => if (acc ++ y).length ≤ sizeLine then dJs ts (acc ++ y) e m1 else .stuck
    | _ => .stuck
inductive PDJ (X : Cx) : List Expr → List DE → Prop where
  | nil : PDJ X [] []
  | cons {e : Expr} {t : DE} {es : List Expr} {ts : List DE} (h : PDE X e t) (r : PDJ X es ts) : PDJ X (e :: es) (t :: ts)
theorem pj_mx : ∀ {es : List Expr} {ts : List DE}, PDJ X es ts → PJ X es (es.map (WE X))
  | _, _, .nil => .nil
  | _, _, .cons h r => .cons (mxE X _) (pj_mx r)
theorem tjs_of : ∀ {es : List Expr} {ts : List DE}, PDJ X es ts → ∀ (acc : Str) {S : Wd} {r : En} {m : Mu} {σ : L2.St} {Q : Str → Hp → Prop}, Sta X.K S m → RelE X.K S r σ →
    PostD X.K S (dJs ts acc r m) (fun v H => ∃ y, v = .str y ∧ Q y H) (fun c d H => Fly X c d σ H) → tJs (es.map (WE X)) acc σ S.H Q
  | _, _, .nil, acc, S, r, m, σ, Q, sa, re, q => by
    obtain ⟨y, e, q⟩ := Post.ok q (Stp.refl S) sa (.str acc)
    cases e
    exact q
  | _, _, .cons h rr, acc, S, r, m, σ, Q, sa, re, q => by
    refine h S r m σ _ sa re (Post.bindI q fun d m1 v T st sa1 rd q1 => ?_)
    split at q1
    · rename_i y
      cases rd
      split at q1
      · rename_i hz
        exact ⟨y, rfl, hz, tjs_of rr (acc ++ y) sa1 (re.stp st) q1⟩
      · exact (show False from q1).elim
    · exact (show False from q1).elim
theorem dJs_str {ts : List DE} : ∀ {acc : Str} {e : En} {m : Mu} {K : PySem.W.Frag} {S : Wd} {Q : VK} {W : XK}, PostD K S (dJs ts acc e m) Q W → PostD K S (dJs ts acc e m) (fun v H => ∃ y, v = .str y ∧ Q (.str y) H) W := by
  induction ts with
  | nil => exact fun q v T st sa rd => by cases rd; exact ⟨_, rfl, q _ T st sa (.str _)⟩
  | cons t ts ih =>
    intro acc e m K S Q W q
    unfold dJs at q ⊢
    cases h : t e m with
    | stuck => rw [h] at q; exact q
    | exc C fs m1 => rw [h] at q; exact q
    | ok d m1 =>
      rw [h] at q
      rw [Res.bind_ok] at q ⊢
      cases d with
      | str y =>
        dsimp only at q ⊢
        by_cases hz : (acc ++ y).length ≤ sizeLine
        · rw [if_pos hz] at q ⊢
          exact ih q
        · rw [if_neg hz] at q ⊢
          exact q
      | _ => exact q
theorem pd_joined {v1 v2 : Expr} {rest : List Expr} {ts : List DE} (h : PDJ X (v1 :: v2 :: rest) ts) : PDE X (.JoinedStr (v1 :: v2 :: rest) pos) (dJs ts Str.empty) := by
  refine pd_of (pe_joined (pj_mx h)) fun S r m σ Q sa re q => ?_
  exact tjs_of h Str.empty sa re (dJs_str q)
theorem pd_joined1 (h : PDE X e ta) : PDE X (.JoinedStr [e] pos) ta := pd_of (pe_joined1 (mxE X e)) h
/-! ### static and class methods, called on the class -/
structure SMet (P : Program) (w : World) (K : PySem.W.Frag) (mg : Str → Option Value) (base : Heap) (k : Nat) (x mn : Str) (G : DFn) : Prop where
  ex : ∃ (C pp f : Addr) (fd : FuncData) (ps : List Str) (dds : List D) (G0 : DFn), mg x = some (.ref C) ∧ PySem.W.readsIn K C (.type "type") = true ∧ PySem.W.specialIn K (.ref C) "__getattribute__" = some (some (.builtin "type.__getattribute__")) ∧
    PySem.W.findCls K (.ref C) (.type "type") mn = some (.get (.builtin "staticmethod.__get__") (.ref pp) .none (.ref C)) ∧ (∃ rest, PySem.W.recIn K pp "staticmethod" = some (.ref f :: rest)) ∧
    PySem.W.keepIn K (.ref f) = true ∧ FnD P w K mg base k f fd ps G0 ∧ Bd K fd ps dds ∧ G = padF ps.length dds G0
theorem getsm {pins : List (Addr × Obj)} {σ : L2.St} {H : Hp} {s : Shared} {C pp f : Addr} {pl : Sem Bool} {Q : Value × List Value → Shared → Prop} {E : Value → Shared → Prop} (I : Inv X pins σ H s) (h1 : PySem.W.readsIn X.K C (.type "type") = true) (h2 : PySem.W.specialIn X.K (.ref C) "__getattribute__" = some (some (.builtin "type.__getattribute__")))
    (h3 : PySem.W.findCls X.K (.ref C) (.type "type") mn = some (.get (.builtin "staticmethod.__get__") (.ref pp) .none (.ref C))) (h4 : ∃ rest, PySem.W.recIn X.K pp "staticmethod" = some (.ref f :: rest))
    (h : ∀ s', Inv X pins σ H s' → Q (.ref f, []) s') : wpAny (model X.prog X.w) X.A (getMethod (.ref C) mn pl) Q E s := by
  obtain ⟨rest, hp⟩ := h4
  refine PySem.W.method_cls I.kIn h2 (PySem.W.cls_bind I.kIn h1 h3 ?_)
  exact wpAny_call (PySem.W.sm_get (s := { s with toks := s.toks + 1 }) I.kIn hp (PySem.W.handed_on rfl (h _ (I.tok _))))
theorem pd_smeth {p2 : Pos} {pl : Sem Bool} {G : DFn} (F : SMet X.prog X.w X.K X.mg X.base k x mn G) (hr : Room k X.A) (ha : PDA X (e :: es) t)
    (hg : Gl X x := by rfl) (hdb : (x == ("__debug__" : Str)) = false := by decide)
    (hst : starEach (e :: es) X.env = (false, eval e X.env) :: starEach es X.env := by exact se_cons _ _ _ rfl) (hpl : (backTo pos (starEach es X.env)).any (·.1) = false := by exact se_any _ _ _ rfl)
    (ht : eval (.Call (.Attribute (.Name x p2) mn apos) (e :: es) [] pos) X.env = (do
      let ov ← eval (.Name x p2) X.env
      standAt apos.atName
      let (f, first) ← holding [ov] (getMethod ov mn pl)
      callWith pos f first (backTo pos (starEach (e :: es) X.env)) (backToKw pos (keywordEach [] X.env))) := by rfl) :
    PDE X (.Call (.Attribute (.Name x p2) mn apos) (e :: es) [] pos) (dFun G t) := by
  obtain ⟨C, pp, f, fd, ps, dds, G0, hm, h1, h2, h3, h4, hk, hf, hb, rfl⟩ := F.ex
  intro S r m σ Q sa re q pins s I
  refine PySem.W.methodCall_KW (pl := pl) (ld_glob I hg hm ?_ hdb) ht
  refine getsm I h1 h2 h3 h4 fun s1 I1 => ?_
  refine PySem.W.callWith_K (first := []) (h₀ := X.base) I1.ok.mod.kin hk (thn (ha.run sa re q I1 pos) ?_) hst hpl
  rintro us s2 ⟨xs, das, m2, U, st2, sa2, rds, rv, I2, q2⟩
  exact ⟨I2.kIn, run_fnA (us := us) hf hr hb rfl I2 sa2 rds rv q2⟩
structure SMetK (P : Program) (w : World) (K : PySem.W.Frag) (mg : Str → Option Value) (base : Heap) (k : Nat) (x mn : Str) (n : Nat) (ks : List Str) (G : DFn) : Prop where
  ex : ∃ (C pp f : Addr) (fd : FuncData) (ps : List Str) (pl : List Nat) (dds : List D) (G0 : DFn), mg x = some (.ref C) ∧ PySem.W.readsIn K C (.type "type") = true ∧ PySem.W.specialIn K (.ref C) "__getattribute__" = some (some (.builtin "type.__getattribute__")) ∧
    PySem.W.findCls K (.ref C) (.type "type") mn = some (.get (.builtin "staticmethod.__get__") (.ref pp) .none (.ref C)) ∧ (∃ rest, PySem.W.recIn K pp "staticmethod" = some (.ref f :: rest)) ∧
    PySem.W.keepIn K (.ref f) = true ∧ FnD P w K mg base k f fd ps G0 ∧ BK K fd ps n ks pl dds ∧ G = fun ds m => match pick pl (ds ++ dds) with
      | some xs => G0 xs m
      | none => .stuck
theorem pd_smethK {n : Nat} {ks : List Str} {kws : List Keyword} {tk : DA} {p2 : Pos} {pl : Sem Bool} {G : DFn} (F : SMetK X.prog X.w X.K X.mg X.base k x mn n ks G) (hr : Room k X.A) (ha : PDA X (e :: es) t) (hkw : PDK X kws tk)
    (hks : (backToKw pos (keywordEach kws X.env)).filterMap (·.1) = ks := by rfl) (hall : (backToKw pos (keywordEach kws X.env)).all (·.1.isSome) = true := by rfl)
    (hg : Gl X x := by rfl) (hdb : (x == ("__debug__" : Str)) = false := by decide)
    (hst : starEach (e :: es) X.env = (false, eval e X.env) :: starEach es X.env := by exact se_cons _ _ _ rfl) (hpl : ((backTo pos (starEach (e :: es) X.env)).any (·.1) || (backToKw pos (keywordEach kws X.env)).any (·.1.isNone)) = false := by rfl)
    (ht : eval (.Call (.Attribute (.Name x p2) mn apos) (e :: es) kws pos) X.env = (do
      let ov ← eval (.Name x p2) X.env
      standAt apos.atName
      let (f, first) ← holding [ov] (getMethod ov mn pl)
      callWith pos f first (backTo pos (starEach (e :: es) X.env)) (backToKw pos (keywordEach kws X.env))) := by rfl) :
    PDE X (.Call (.Attribute (.Name x p2) mn apos) (e :: es) kws pos) (dFunK G n ks.length t tk) := by
  obtain ⟨C, pp, f, fd, ps, pl', dds, G0, hm, h1, h2, h3, h4, hk, hf, hb, rfl⟩ := F.ex
  intro S r m σ Q sa re q pins s I
  refine PySem.W.methodCall_KW (pl := pl) (ld_glob I hg hm ?_ hdb) ht
  refine getsm I h1 h2 h3 h4 fun s0 I0 => ?_
  refine PySem.W.callWith_KW (first := []) (h₀ := X.base) I0.ok.mod.kin hk hall (thn (ha.run sa re q I0 pos) ?_) hpl hst
  rintro us s1 ⟨xs, das, m1, T, st, sa1, rds, rv, I1, q1⟩
  refine thn (hkw.run sa1 (re.stp st) q1 I1 pos) ?_
  rintro ws s2 ⟨zs, dzs, m2, U, st2, sa2, rdz, rz, I2, q2⟩
  refine ⟨I2.kIn, ?_⟩
  rw [hks]
  split at q2
  · rename_i hl
    dsimp only at q2
    split at q2
    · rename_i xs' hp
      exact run_fnK hf hr hb I2 sa2 (rds.stp st2) rdz rv rz hl.1 hl.2 hp q2
    · exact q2.elim
  · exact q2.elim
/-! ### keywords in methods -/
structure MTK (P : Program) (w : World) (K : PySem.W.Frag) (mg : Str → Option Value) (base : Heap) (k : Nat) (mn : Str) (n : Nat) (ks : List Str) (c : Kl) (G : DFn) : Prop where
  cl : Cls K c.a
  no : mn ∉ c.ns
  ex : ∃ (f : Addr) (fd : FuncData) (ps : List Str) (pl : List Nat) (dds : List D) (G0 : DFn), PySem.W.findIn K (.ref c.a) mn = some (some (.ref f)) ∧ PySem.W.isFn K (.ref f) = true ∧ PySem.W.keepIn K (.ref f) = true ∧ FnD P w K mg base k f fd ps G0 ∧ BK K fd ps (n + 1) ks pl dds ∧
    G = fun ds m => match pick pl (ds ++ dds) with
      | some xs => G0 xs m
      | none => .stuck
def dMethK (rows : List (Kl × DFn)) (n nk : Nat) (to : DE) (t u : DA) : DE := fun e m => (to e m).bind fun o m1 => match insOf m1 o with
  | some (C, ns, _) => match methAt rows C ns with
    | some G => (t e m1).bind fun ds m2 => (u e m2).bind fun zs m3 => if ds.length = n ∧ zs.length = nk then G (o :: (ds ++ zs)) m3 else .stuck
    | none => .stuck
  | none => .stuck
theorem pd_methK {n : Nat} {ks : List Str} {kws : List Keyword} {to : DE} {tk : DA} {rows : List (Kl × DFn)} {pl : Sem Bool} (he : PDE X o to) (hrows : ∀ r ∈ rows, MTK X.prog X.w X.K X.mg X.base k mn n ks r.1 r.2) (hr : Room k X.A) (ha : PDA X (e :: es) t) (hkw : PDK X kws tk)
    (hks : (backToKw pos (keywordEach kws X.env)).filterMap (·.1) = ks := by rfl) (hall : (backToKw pos (keywordEach kws X.env)).all (·.1.isSome) = true := by rfl)
    (hst : starEach (e :: es) X.env = (false, eval e X.env) :: starEach es X.env := by exact se_cons _ _ _ rfl) (hpl : ((backTo pos (starEach (e :: es) X.env)).any (·.1) || (backToKw pos (keywordEach kws X.env)).any (·.1.isNone)) = false := by rfl)
    (ht : eval (.Call (.Attribute o mn apos) (e :: es) kws pos) X.env = (do
      let ov ← eval o X.env
      standAt apos.atName
      let (f, first) ← holding [ov] (getMethod ov mn pl)
      callWith pos f first (backTo pos (starEach (e :: es) X.env)) (backToKw pos (keywordEach kws X.env))) := by rfl) :
    PDE X (.Call (.Attribute o mn apos) (e :: es) kws pos) (dMethK rows n ks.length to t tk) := by
  intro S r m σ Q sa re q pins s I
  refine PySem.W.methodCall_KW (pl := pl) (thn (he.run sa re q I) ?_) ht
  rintro u s1 ⟨x, d, m1, T, st, sa1, rd, rx, I1, q1⟩
  split at q1
  · rename_i C ns ds ei
    split at q1
    · rename_i G eG
      obtain ⟨c, ok, rfl, rfl⟩ := methAt_ok (P := MTK X.prog X.w X.K X.mg X.base k mn n ks) hrows eG
      obtain ⟨a, dx, vs, rfl, h1, h2, h3⟩ := insOf_ok sa1 rd ei
      obtain ⟨f, fd, ps, plk, dds, G0, hf1, hf2, hk, hf, hb, rfl⟩ := ok.ex
      obtain rfl : u = Value.ref a := rx
      refine getmeth_ok I1 h1 ok.cl ⟨hf1, hf2, hk⟩ (lookup_not (by rw [h2]; exact ok.no)) ?_
      refine PySem.W.callWith_KW (first := [.ref a]) (h₀ := X.base) I.ok.mod.kin hk hall (thn (ha.run sa1 (re.stp st) q1 I1 pos) ?_) hpl hst
      rintro us s2 ⟨xs, das, m2, U, st2, sa2, rds, rv, I2, q2⟩
      refine thn (hkw.run sa2 ((re.stp st).stp st2) q2 I2 pos) ?_
      rintro ws s3 ⟨zs, dzs, m3, Z, st3, sa3, rdz, rz, I3, q3⟩
      refine ⟨I3.kIn, ?_⟩
      rw [hks]
      split at q3
      · rename_i hl
        dsimp only at q3
        split at q3
        · rename_i xs' hp
          exact run_fnK (us := .ref a :: us) hf hr hb I3 sa3 (.cons ((rd.stp st2).stp st3) (rds.stp st3)) rdz (.cons rfl rv) rz (by simp [hl.1]) hl.2 hp q3
        · exact q3.elim
      · exact q3.elim
    · exact (show False from q1).elim
  · exact (show False from q1).elim
theorem pd_methK0 {ks : List Str} {kws : List Keyword} {to : DE} {tk : DA} {rows : List (Kl × DFn)} {pl : Sem Bool} (he : PDE X o to) (hrows : ∀ r ∈ rows, MTK X.prog X.w X.K X.mg X.base k mn 0 ks r.1 r.2) (hr : Room k X.A) (hkw : PDK X kws tk)
    (hks : (backToKw pos (keywordEach kws X.env)).filterMap (·.1) = ks := by rfl) (hall : (backToKw pos (keywordEach kws X.env)).all (·.1.isSome) = true := by rfl)
    (hpl : ((backTo pos (starEach [] X.env)).any (·.1) || (backToKw pos (keywordEach kws X.env)).any (·.1.isNone)) = false := by rfl)
    (ht : eval (.Call (.Attribute o mn apos) [] kws pos) X.env = (do
      let ov ← eval o X.env
      standAt apos.atName
      let (f, first) ← holding [ov] (getMethod ov mn pl)
      callWith pos f first (backTo pos (starEach [] X.env)) (backToKw pos (keywordEach kws X.env))) := by rfl) :
    PDE X (.Call (.Attribute o mn apos) [] kws pos) (dMethK rows 0 ks.length to dNil tk) := by
  intro S r m σ Q sa re q pins s I
  refine PySem.W.methodCall_KW (pl := pl) (thn (he.run sa re q I) ?_) ht
  rintro u s1 ⟨x, d, m1, T, st, sa1, rd, rx, I1, q1⟩
  split at q1
  · rename_i C ns ds ei
    split at q1
    · rename_i G eG
      obtain ⟨c, ok, rfl, rfl⟩ := methAt_ok (P := MTK X.prog X.w X.K X.mg X.base k mn 0 ks) hrows eG
      obtain ⟨a, dx, vs, rfl, h1, h2, h3⟩ := insOf_ok sa1 rd ei
      obtain ⟨f, fd, ps, plk, dds, G0, hf1, hf2, hk, hf, hb, rfl⟩ := ok.ex
      obtain rfl : u = Value.ref a := rx
      refine getmeth_ok I1 h1 ok.cl ⟨hf1, hf2, hk⟩ (lookup_not (by rw [h2]; exact ok.no)) ?_
      refine PySem.W.callWith_KW0 (first := [.ref a]) (h₀ := X.base) I.ok.mod.kin hk hall (thn (hkw.run sa1 (re.stp st) (f := fun zs m3 => if ([] : List D).length = 0 ∧ zs.length = ks.length then _ else .stuck) q1 I1 pos) ?_) hpl
      rintro ws s3 ⟨zs, dzs, m3, Z, st3, sa3, rdz, rz, I3, q3⟩
      refine ⟨I3.kIn, ?_⟩
      rw [hks]
      split at q3
      · rename_i hl
        dsimp only at q3
        split at q3
        · rename_i xs' hp
          exact run_fnK (us := [.ref a]) (vs := [.ref a]) (das := [d]) hf hr hb I3 sa3 (.cons (rd.stp st3) .nil) rdz (.cons rfl .nil) rz rfl hl.2 hp q3
        · exact q3.elim
      · exact q3.elim
    · exact (show False from q1).elim
  · exact (show False from q1).elim
end
end DL

namespace DL
open PySem PySem.Spec PyProof.Rows L2
variable [LamTab]
/-! ### what a def leaves behind: its own store is dropped, a list of it that is handed out stays as it is -/
open Classical in
noncomputable def zapR (k : Nat) (r : Res D) : Res D := match r with
  | .ok d m2 => if Cl (m2.take k) ∧ (m2.take k).length = k then (match d with
      | .loc n => if n < k then .ok (.loc n) (m2.take k) else (match m2[n]? with
        | some (.lst ds) => if belows k ds = true then .ok (.lst ds) (m2.take k) else .stuck
        | _ => .stuck)
      | d => if below k d = true then .ok d (m2.take k) else .stuck) else .stuck
  | r => r
noncomputable def dZap (F : DFn) : DFn := fun ds m => zapR m.length (F ds m)
section
variable {K : PySem.W.Frag}
theorem zap_ok {S : Wd} {m : Mu} {r : Res D} {Q : VK} {W : XK} (sa : Sta K S m) (h : PostD K S (zapR m.length r) Q W) : PostD K S r Q W := by
  cases r with
  | stuck => exact h
  | exc C fs m2 => exact h
  | ok d m2 =>
    intro v T st saT rd
    unfold zapR at h
    dsimp only at h
    split at h
    · rename_i hc
      obtain ⟨hcl, hlen⟩ := hc
      obtain ⟨c1, c2⟩ := cut_ok sa st saT (by intro o ho; have := hcl o ho; rw [hlen] at this; exact this)
      have other : ∀ {d : D}, Rep K T.i T.F d v → below m.length d = true → PostD K S (.ok d (m2.take m.length)) Q W → Q v T.H := fun rd hb h =>
        h v (T.cut S.i) c1 c2 (rd.cut saT st.pre (by rw [sa.len]; exact hb))
      split at h
      · rename_i n
        split at h
        · rename_i hn
          exact other rd (by unfold below; exact decide_eq_true hn) h
        · rename_i hn
          split at h
          · rename_i ds e1
            split at h
            · rename_i hb
              cases rd with
              | @loc _ a ha =>
                obtain ⟨xs, q1, q2⟩ := saT.ok n a _ ha e1
                refine h (.ref a) (T.cut S.i) c1 c2 (.lst (.inl (.inl ?_)) (q2.cut saT st.pre (by rw [sa.len]; exact hb)))
                rw [cut_at sa st saT (by omega) ha]
                exact q1
            · exact h.elim
          · exact h.elim
      · split at h
        · rename_i hb
          exact other rd hb h
        · exact h.elim
    · exact h.elim
end
section
variable {P : Program} {w : World} {K : PySem.W.Frag} {mg : Str → Option Value} {base : Heap}
theorem FnD.zap {k : Nat} {f : Addr} {fd : FuncData} {ps : List Str} {F : DFn} (h : FnD P w K mg base k f fd ps F) : FnD P w K mg base k f fd ps (dZap F) :=
  FnOk.imp h fun vs H Q E ⟨h1, S, m, ds, h2, h3, h4, h5⟩ => ⟨h1, S, m, ds, h2, h3, h4, zap_ok h3 h5⟩
end
/-! ### over a list of the store -/
open Classical in
noncomputable def dLoopS (g : DG) (b : DS) (n : Nat) (ds0 : List D) : List D → En → Mu → RS
  | [], e, m => if m[n]? = some (.lst ds0) then .nx e m else .stuck
  | d :: ds, e, m => if m[n]? = some (.lst ds0) then (match g d e with
    | none => .stuck
    | some e1 => match b e1 m with
      | .nx e2 m2 => dLoopS g b n ds0 ds e2 m2
      | .ct e2 m2 => dLoopS g b n ds0 ds e2 m2
      | .bk e2 m2 => .nx e2 m2
      | .rt d m2 => .rt d m2
      | .exc C fs e2 m2 => .exc C fs e2 m2
      | .stuck => .stuck) else .stuck
noncomputable def forS1 (g : DG) (b : DS) (d : D) (e : En) (m1 : Mu) : RS := match d with
  | .lst ds => dLoop g b ds e m1
  | .loc n => match m1[n]? with
    | some (.lst ds) => dLoopS g b n ds ds e m1
    | _ => .stuck
  | _ => .stuck
noncomputable def dForS (t : DE) (g : DG) (b : DS) : DS := fun e m => rsOf e (t e m) fun d m1 => forS1 g b d e m1
section
variable {X : Cx} {tg a b : Expr} {es : List Expr} {ta tb : DE} {t : DA} {pos p tpos : Pos}
theorem pds_forS {iter : Expr} {body : List Stmt} {g : DG} {u : DS} {sl : List Nat} (hi : PDE X iter ta) (hg : PDG X tg g sl) (hb : PDSs X body u) (hc : X.calm = true) (hp : PassesOwn (model X.prog X.w) X.A X.env X.xe)
    (hs : ∀ x, foldedSetIterable iter X.env x = pure x := by intro _; rfl) : PDS X (.For tg iter body [] pos) (dForS ta g u) := by
  refine ps_of (ps_for hp hc (pi_list (mxE X iter)) (mxG X tg) (mxSs X body) hs) fun S r m σ N sa re p => ?_
  refine hi S r m σ _ sa re (?_)
  unfold dForS at p
  cases q : ta r m with
  | stuck => rw [q] at p; exact p
  | exc C fs m1 => rw [q] at p; exact fun dd vs T st hn sa1 h1 h2 => p dd vs σ T st hn sa1 (re.stp st) h1 h2
  | ok d m1 =>
    rw [q] at p
    intro v T st sa1 rd
    have p2 : PostS X.K T (forS1 g u d r m1) N (Fly X) := PostS.step st p
    clear p q
    have p := p2
    clear p2
    unfold forS1 at p
    split at p
    · rename_i ds
      obtain ⟨a, xs, rfl, hr, kk⟩ := frozen sa1 rd
      refine ⟨a, rfl, ⟨xs, (kk T m1 (Stp.refl T) sa1).1⟩, ?_⟩
      have hJ : ItOk X.K T (Itl X.K a) ds := fun U m' i st' sa' => ⟨fun d hd => by
          obtain ⟨v, hv, rv⟩ := (kk U m' st' sa').2.get hd
          refine ⟨⟨xs, v, (kk U m' st' sa').1, hv⟩, fun x H' hy => ⟨U, hy.1.symm, Stp.refl U, sa', ?_⟩⟩
          have := hy.2 xs (kk U m' st' sa').1
          rw [hv] at this; cases this
          exact rv, fun hl => ⟨xs, (kk U m' st' sa').1, by rw [← hr.len]; exact hl⟩⟩
      refine ⟨fun i n σ' H' => n = ds.length - i ∧ i ≤ ds.length ∧ ∃ (U : Wd) (e : En) (m' : Mu), U.H = H' ∧ Stp T U ∧ Sta X.K U m' ∧ RelE X.K U e σ' ∧ PostS X.K U (dLoop g u (ds.drop i) e m') N (Fly X),
        ⟨ds.length, by simp, Nat.zero_le _, T, r, m1, rfl, Stp.refl T, sa1, re.stp st, p⟩, ?_⟩
      rintro i n σ' H' ⟨rfl, hi', U, e, m', rfl, stU, saU, reU, pU⟩
      by_cases hlt : i < ds.length
      · refine .inr ⟨((hJ U m' i stU saU).1 _ (List.getElem?_eq_getElem hlt)).1, fun σ2 H2 => i + 1 ≤ ds.length ∧ ∃ (U2 : Wd) (e2 : En) (m2 : Mu), U2.H = H2 ∧ Stp T U2 ∧ Sta X.K U2 m2 ∧ RelE X.K U2 e2 σ2 ∧ PostS X.K U2 (dLoop g u (ds.drop (i + 1)) e2 m2) N (Fly X),
          fun σ2 H2 h2 => ⟨ds.length - (i + 1), by omega, rfl, h2.1, h2.2⟩, fun x H2 hy => ?_⟩
        obtain ⟨Y, rfl, stY, saY, rdY⟩ := ((hJ U m' i stU saU).1 _ (List.getElem?_eq_getElem hlt)).2 x H2 hy
        rw [List.drop_eq_getElem_cons hlt] at pU
        have pY := PostS.step stY pU
        unfold dLoop at pY
        cases qg : g ds[i] e with
        | none => rw [qg] at pY; exact pY.elim
        | some e1 =>
          rw [qg] at pY
          refine hg Y e m' σ' ds[i] x e1 _ saY (reU.stp stY) rdY qg fun σ1 re1 _ => hb Y e1 m' σ1 _ saY re1 ?_
          have stT := stU.trans stY
          dsimp only at pY
          cases qb : u e1 m' with
          | stuck => rw [qb] at pY; exact pY.elim
          | nx e2 m2 => rw [qb] at pY; exact fun σ2 Z stZ saZ reZ => ⟨hlt, Z, e2, m2, rfl, stT.trans stZ, saZ, reZ, PostS.step stZ pY⟩
          | ct e2 m2 => rw [qb] at pY; exact fun σ2 Z stZ saZ reZ => ⟨hlt, Z, e2, m2, rfl, stT.trans stZ, saZ, reZ, PostS.step stZ pY⟩
          | bk e2 m2 => rw [qb] at pY; exact pY
          | rt d m2 => rw [qb] at pY; exact pY
          | exc C fs e2 m2 => rw [qb] at pY; exact pY
      · have e : i = ds.length := by omega
        subst e
        rw [List.drop_length] at pU
        exact .inl ⟨(hJ U m' _ stU saU).2 (Nat.le_refl _), pU σ' U (Stp.refl U) saU reU⟩
    · rename_i n
      split at p
      · rename_i ds e0
        cases rd with
        | @loc _ a ha =>
        have look : ∀ U m', Stp T U → Sta X.K U m' → m'[n]? = some (.lst ds) → ∃ xs, SqL X.K U.H a xs ∧ Reps X.K U.i U.F ds xs := fun U m' st' sa' e' => by
          obtain ⟨xs, q1, q2⟩ := sa'.ok n a _ (pre_get st'.pre ha) e'
          exact ⟨xs, .inl (.inl q1), q2⟩
        have inj : ∀ U m', Sta X.K U m' → Stp T U → m'[n]? = some (.lst ds) → ∀ xs ys, SqL X.K U.H a xs → U.H a = some (.lst ys) → True := fun _ _ _ _ _ _ _ _ _ => True.intro
        obtain ⟨xs0, k1, k2⟩ := look T m1 (Stp.refl T) sa1 e0
        refine ⟨a, rfl, ⟨xs0, k1⟩, ?_⟩
        refine ⟨fun i nn σ' H' => nn = ds.length - i ∧ i ≤ ds.length ∧ ∃ (U : Wd) (e : En) (m' : Mu), U.H = H' ∧ Stp T U ∧ Sta X.K U m' ∧ RelE X.K U e σ' ∧ PostS X.K U (dLoopS g u n ds (ds.drop i) e m') N (Fly X),
          ⟨ds.length, by simp, Nat.zero_le _, T, r, m1, rfl, Stp.refl T, sa1, re.stp st, p⟩, ?_⟩
        rintro i nn σ' H' ⟨rfl, hi', U, e, m', rfl, stU, saU, reU, pU⟩
        by_cases hlt : i < ds.length
        · rw [List.drop_eq_getElem_cons hlt] at pU
          unfold dLoopS at pU
          split at pU
          · rename_i hgd
            obtain ⟨xs, l1, l2⟩ := look U m' stU saU hgd
            obtain ⟨v, hv, rv⟩ := l2.get (List.getElem?_eq_getElem hlt)
            refine .inr ⟨⟨xs, v, l1, hv⟩, fun σ2 H2 => i + 1 ≤ ds.length ∧ ∃ (U2 : Wd) (e2 : En) (m2 : Mu), U2.H = H2 ∧ Stp T U2 ∧ Sta X.K U2 m2 ∧ RelE X.K U2 e2 σ2 ∧ PostS X.K U2 (dLoopS g u n ds (ds.drop (i + 1)) e2 m2) N (Fly X),
              fun σ2 H2 h2 => ⟨ds.length - (i + 1), by omega, rfl, h2.1, h2.2⟩, fun x H2 hy => ?_⟩
            obtain ⟨rfl, hy2⟩ := hy
            have hx := hy2 xs l1
            rw [hv] at hx
            cases hx
            cases qg : g ds[i] e with
            | none => rw [qg] at pU; exact pU.elim
            | some e1 =>
              rw [qg] at pU
              refine hg U e m' σ' ds[i] v e1 _ saU reU rv qg fun σ1 re1 _ => hb U e1 m' σ1 _ saU re1 ?_
              dsimp only at pU
              cases qb : u e1 m' with
              | stuck => rw [qb] at pU; exact pU.elim
              | nx e2 m2 => rw [qb] at pU; exact fun σ2 Z stZ saZ reZ => ⟨hlt, Z, e2, m2, rfl, stU.trans stZ, saZ, reZ, PostS.step stZ pU⟩
              | ct e2 m2 => rw [qb] at pU; exact fun σ2 Z stZ saZ reZ => ⟨hlt, Z, e2, m2, rfl, stU.trans stZ, saZ, reZ, PostS.step stZ pU⟩
              | bk e2 m2 => rw [qb] at pU; exact pU
              | rt d m2 => rw [qb] at pU; exact pU
              | exc C fs e2 m2 => rw [qb] at pU; exact pU
          · exact pU.elim
        · have e : i = ds.length := by omega
          subst e
          rw [List.drop_length] at pU
          unfold dLoopS at pU
          split at pU
          · rename_i hgd
            obtain ⟨xs, l1, l2⟩ := look U m' stU saU hgd
            exact .inl ⟨⟨xs, l1, by rw [← l2.len]; exact Nat.le_refl _⟩, pU σ' U (Stp.refl U) saU reU⟩
          · exact pU.elim
      · exact p.elim
    · exact p.elim
/-! ### methods of lists of the store -/
/-- o.m(..) of a list of the store -/
def dLm (f : List D → List D → Option (List D × D)) (to : DE) (t : DA) : DE := fun e m => (to e m).bind fun o m1 => match o with
  | .loc n => match m1[n]? with
    | some (.lst _) => (t e m1).bind fun ds m2 => match m2[n]? with
      | some (.lst xs) => match f xs ds with
        | some (ys, d) => .ok d (m2.set n (.lst ys))
        | none => .stuck
      | _ => .stuck
    | _ => .stuck
  | _ => .stuck
def fAppend : List D → List D → Option (List D × D) := fun xs ds => match ds with
  | [d] => if xs.length < sizeLine then some (xs ++ [d], .non) else none
  | _ => none
def fClear : List D → List D → Option (List D × D) := fun _ ds => match ds with
  | [] => some ([], .non)
  | _ => none
def fPop : List D → List D → Option (List D × D) := fun xs ds => match ds with
  | [] => match xs[xs.length - 1]? with
    | some d => some (xs.dropLast, d)
    | none => none
  | _ => none
def fPopAt : List D → List D → Option (List D × D) := fun xs ds => match ds with
  | [.int i] => if -(2 ^ 63) ≤ i ∧ i < 2 ^ 63 then (match ixN xs.length i with
    | some k => match xs[k]? with
      | some d => some (xs.eraseIdx k, d)
      | none => none
    | none => none) else none
  | _ => none
def fInsert : List D → List D → Option (List D × D) := fun xs ds => match ds with
  | [.int i, d] => if 0 ≤ i ∧ i < 2 ^ 63 ∧ xs.length < sizeLine then some (xs.take i.toNat ++ [d] ++ xs.drop i.toNat, .non) else none
  | _ => none
theorem Reps.dropLast {K : PySem.W.Frag} {ι : List Addr} {F : Hp} {ds : List D} {vs : List V} (r : Reps K ι F ds vs) : Reps K ι F ds.dropLast vs.dropLast := by
  rw [List.dropLast_eq_take, List.dropLast_eq_take, ← r.len]
  exact r.take _
section
variable {f : List D → List D → Option (List D × D)} {rr : V → List V → Hp → VK → Prop}
/-- what a method's rule must give -/
def LmOk (K : PySem.W.Frag) (f : List D → List D → Option (List D × D)) (rr : V → List V → Hp → VK → Prop) : Prop := ∀ (i : List Addr) (F H : Hp) (a : Addr) (xs ds ys : List D) (d : D) (vs us : List V) (Q : VK), H a = some (.lst vs) → Reps K i F xs vs → Reps K i F ds us → f xs ds = some (ys, d) →
  (∀ ws v, Reps K i F ys ws → Rep K i F d v → Q v (upd H a (.lst ws))) → rr (.ref a) us H Q
theorem ok_append (K : PySem.W.Frag) : LmOk K fAppend rAppend := by
  intro i F H a xs ds ys d vs us Q h1 r1 r2 hf q
  unfold fAppend at hf
  split at hf
  · rename_i d1
    split at hf
    · rename_i hl
      cases hf
      cases r2 with
      | cons h r =>
        cases r
        exact ⟨a, vs, _, rfl, rfl, h1, by rw [← r1.len]; exact hl, q _ _ (r1.append (.cons h .nil)) .non⟩
    · cases hf
  · cases hf
theorem ok_clear (K : PySem.W.Frag) : LmOk K fClear rClear := by
  intro i F H a xs ds ys d vs us Q h1 r1 r2 hf q
  unfold fClear at hf
  split at hf
  · cases hf
    cases r2
    exact ⟨a, vs, rfl, rfl, h1, q _ _ .nil .non⟩
  · cases hf
theorem ok_pop (K : PySem.W.Frag) : LmOk K fPop rPop := by
  intro i F H a xs ds ys d vs us Q h1 r1 r2 hf q
  unfold fPop at hf
  split at hf
  · split at hf
    · rename_i d1 e1
      cases hf
      cases r2
      obtain ⟨v, hv, rv⟩ := r1.get e1
      exact ⟨a, vs, v, rfl, rfl, h1, by rw [← r1.len]; exact hv, q _ _ r1.dropLast rv⟩
    · cases hf
  · cases hf
theorem ok_popAt (K : PySem.W.Frag) : LmOk K fPopAt rPopAt := by
  intro i F H a xs ds ys d vs us Q h1 r1 r2 hf q
  unfold fPopAt at hf
  split at hf
  · rename_i j
    split at hf
    · rename_i hj
      split at hf
      · rename_i k ek
        split at hf
        · rename_i d1 e1
          cases hf
          cases r2 with
          | cons h r =>
            cases r
            cases h
            obtain ⟨v, hv, rv⟩ := r1.get e1
            exact ⟨a, vs, j, k, v, rfl, rfl, h1, hj.1, hj.2, by rw [← r1.len]; exact (ixN_seq ek).1, hv, q _ _ (r1.eraseIdx k) rv⟩
        · cases hf
      · cases hf
    · cases hf
  · cases hf
theorem ok_insert (K : PySem.W.Frag) : LmOk K fInsert (fun x vs H Q => ∃ (l : Addr) (xs : List V) (i : Int) (y : V), x = .ref l ∧ vs = [.int i, y] ∧ H l = some (.lst xs) ∧ xs.length < sizeLine ∧ 0 ≤ i ∧ i < 2 ^ 63 ∧ Q .non (upd H l (.lst (xs.take i.toNat ++ [y] ++ xs.drop i.toNat)))) := by
  intro i F H a xs ds ys d vs us Q h1 r1 r2 hf q
  unfold fInsert at hf
  split at hf
  · rename_i j d1
    split at hf
    · rename_i hj
      cases hf
      cases r2 with
      | cons h r =>
        cases h
        cases r with
        | cons h r =>
          cases r
          exact ⟨a, vs, j, _, rfl, rfl, h1, by rw [← r1.len]; exact hj.2.2, hj.1, hj.2.1, q _ _ (((r1.take _).append (.cons h .nil)).append (r1.drop _)) .non⟩
    · cases hf
  · cases hf
variable {o e : Expr} {to : DE} {name : Str} {apos cpos : Pos} {id : String}
theorem lm_fin (hm : LmOk X.K f rr) {T U : Wd} {σ : L2.St} {m2 : Mu} {n : Nat} {a : Addr} {ds xs : List D} {us : List V} {Q : VK} (ha : U.i[n]? = some a) (sa2 : Sta X.K U m2) (rds : Reps X.K U.i U.F ds us)
    (q2 : PostD X.K U (match m2[n]? with
      | some (.lst xs) => match f xs ds with
        | some (ys, d) => .ok d (m2.set n (.lst ys))
        | none => .stuck
      | _ => .stuck) Q (fun c d H => Fly X c d σ H)) : rr (.ref a) us U.H Q := by
  split at q2
  · rename_i xs e1
    split at q2
    · rename_i ys d e2
      obtain ⟨vs, h1, h2⟩ := sa2.ok n a _ ha e1
      refine hm U.i U.F U.H a xs ds ys d vs us Q h1 h2 rds e2 fun ws v rw rd => ?_
      obtain ⟨st, sa⟩ := sa2.put ha (o := .lst ws) (q := .lst ys) ⟨ws, upd_same, rw⟩
      exact q2 v (U.put a (.lst ws)) st sa rd
    · exact q2.elim
  · exact q2.elim
theorem pd_lm (slot : Slot "list" name id) (hty : typeOf (.builtin id) = pure (.type "method_descriptor")) (hr : MtR X id rr) (hm : LmOk X.K f rr) (ho : PDE X o to) (ha : PDA X (e :: es) t)
    (hbase : attributeBase o name X.env (eval o X.env) = eval o X.env := by rfl)
    (hfew : ((backTo cpos (starEach (e :: es) X.env)).all (fun x => !x.1) && (backToKw cpos (keywordEach [] X.env)).all (fun x => x.1.isSome)
      && decide ((e :: es).length + ([] : List Keyword).length + (if ([] : List Keyword).isEmpty then 0 else 1) < 30)) = true := by rfl)
    (hline : (apos.endLine == cpos.line) = true := by rfl) (hs : starEach (e :: es) X.env = (false, eval e X.env) :: starEach es X.env := by exact se_cons _ _ _ rfl) (hplain : (backTo cpos (starEach es X.env)).any (·.1) = false := by rfl) :
    PDE X (.Call (.Attribute o name apos) (e :: es) [] cpos) (dLm f to t) := by
  refine pd_of (pe_bm PySem.F.plainAttrs_list slot hty hr (mxE X o) (mxA X _) hbase hfew hline hs hplain) fun S r m σ Q sa re p => ?_
  refine ho S r m σ _ sa re (Post.bindI p fun od m1 v T st sa1 rd q => ?_)
  split at q
  · rename_i n
    split at q
    · rename_i xs0 e0
      cases rd with
      | @loc _ a ha' =>
      obtain ⟨vs0, h1, h2⟩ := sa1.ok n a _ ha' e0
      refine ⟨.inl ⟨rfl, vs0, .inl (.inl h1)⟩, ?_⟩
      refine ha T r m1 σ _ sa1 (re.stp st) (Post.bindI q fun ds m2 us U st2 sa2 rds q2 => ?_)
      exact lm_fin (T := T) (xs := xs0) hm (pre_get st2.pre ha') sa2 rds q2
    · exact q.elim
  · exact q.elim
theorem pd_lm0 (slot : Slot "list" name id) (hty : typeOf (.builtin id) = pure (.type "method_descriptor")) (hr : MtR X id rr) (hm : LmOk X.K f rr) (ho : PDE X o to)
    (hbase : attributeBase o name X.env (eval o X.env) = eval o X.env := by rfl) (hline : (apos.endLine == cpos.line) = true := by rfl) :
    PDE X (.Call (.Attribute o name apos) [] [] cpos) (dLm f to dNil) := by
  refine pd_of (pe_bm0 PySem.F.plainAttrs_list slot hty hr (mxE X o) hbase hline) fun S r m σ Q sa re p => ?_
  refine ho S r m σ _ sa re (Post.bindI p fun od m1 v T st sa1 rd q => ?_)
  split at q
  · rename_i n
    split at q
    · rename_i xs0 e0
      cases rd with
      | @loc _ a ha' =>
      obtain ⟨vs0, h1, h2⟩ := sa1.ok n a _ ha' e0
      exact ⟨.inl ⟨rfl, vs0, .inl (.inl h1)⟩, lm_fin (T := T) (xs := xs0) (ds := []) hm ha' sa1 .nil q⟩
    · exact q.elim
  · exact q.elim
theorem pd_append (ho : PDE X o to) (ha : PDA X [e] t) (hbase : attributeBase o "append" X.env (eval o X.env) = eval o X.env := by rfl)
    (hfew : ((backTo cpos (starEach [e] X.env)).all (fun x => !x.1) && (backToKw cpos (keywordEach [] X.env)).all (fun x => x.1.isSome)
      && decide ([e].length + ([] : List Keyword).length + (if ([] : List Keyword).isEmpty then 0 else 1) < 30)) = true := by rfl)
    (hline : (apos.endLine == cpos.line) = true := by rfl) (hs : starEach [e] X.env = (false, eval e X.env) :: starEach [] X.env := by rfl) (hplain : (backTo cpos (starEach [] X.env)).any (·.1) = false := by rfl) :
    PDE X (.Call (.Attribute o "append" apos) [e] [] cpos) (dLm fAppend to t) := pd_lm PySem.F.slot_list_append PySem.F.type_list_append mt_append (ok_append _) ho ha hbase hfew hline hs hplain
theorem pd_popAt (ho : PDE X o to) (ha : PDA X [e] t) (hbase : attributeBase o "pop" X.env (eval o X.env) = eval o X.env := by rfl)
    (hfew : ((backTo cpos (starEach [e] X.env)).all (fun x => !x.1) && (backToKw cpos (keywordEach [] X.env)).all (fun x => x.1.isSome)
      && decide ([e].length + ([] : List Keyword).length + (if ([] : List Keyword).isEmpty then 0 else 1) < 30)) = true := by rfl)
    (hline : (apos.endLine == cpos.line) = true := by rfl) (hs : starEach [e] X.env = (false, eval e X.env) :: starEach [] X.env := by rfl) (hplain : (backTo cpos (starEach [] X.env)).any (·.1) = false := by rfl) :
    PDE X (.Call (.Attribute o "pop" apos) [e] [] cpos) (dLm fPopAt to t) := pd_lm PySem.F.slot_list_pop PySem.F.type_list_pop mt_popAt (ok_popAt _) ho ha hbase hfew hline hs hplain
theorem pd_insert {e2 : Expr} (ho : PDE X o to) (ha : PDA X [e, e2] t) (hbase : attributeBase o "insert" X.env (eval o X.env) = eval o X.env := by rfl)
    (hfew : ((backTo cpos (starEach [e, e2] X.env)).all (fun x => !x.1) && (backToKw cpos (keywordEach [] X.env)).all (fun x => x.1.isSome)
      && decide ([e, e2].length + ([] : List Keyword).length + (if ([] : List Keyword).isEmpty then 0 else 1) < 30)) = true := by rfl)
    (hline : (apos.endLine == cpos.line) = true := by rfl) (hs : starEach [e, e2] X.env = (false, eval e X.env) :: starEach [e2] X.env := by rfl) (hplain : (backTo cpos (starEach [e2] X.env)).any (·.1) = false := by rfl) :
    PDE X (.Call (.Attribute o "insert" apos) [e, e2] [] cpos) (dLm fInsert to t) := pd_lm PySem.F.slot_list_insert PySem.F.type_list_insert L2.mt_insert (ok_insert _) ho ha hbase hfew hline hs hplain
theorem pd_pop (ho : PDE X o to) (hbase : attributeBase o "pop" X.env (eval o X.env) = eval o X.env := by rfl) (hline : (apos.endLine == cpos.line) = true := by rfl) :
    PDE X (.Call (.Attribute o "pop" apos) [] [] cpos) (dLm fPop to dNil) := pd_lm0 PySem.F.slot_list_pop PySem.F.type_list_pop mt_pop (ok_pop _) ho hbase hline
theorem pd_clear (ho : PDE X o to) (hbase : attributeBase o "clear" X.env (eval o X.env) = eval o X.env := by rfl) (hline : (apos.endLine == cpos.line) = true := by rfl) :
    PDE X (.Call (.Attribute o "clear" apos) [] [] cpos) (dLm fClear to dNil) := pd_lm0 PySem.F.slot_list_clear PySem.F.type_list_clear mt_clear (ok_clear _) ho hbase hline
end
end
end DL

namespace DL
open PySem PySem.Spec PyProof.Rows L2
variable [LamTab]
/-! ### comprehensions: over lists of the store, into the store -/
/-- a hidden list becomes one of the store -/
def Wd.adopt (S : Wd) (p : Addr) : Wd := ⟨S.i ++ [p], S.F, S.H⟩
section
variable {K : PySem.W.Frag} {S T : Wd} {m : Mu}
theorem Rep.adopt {p : Addr} {d : D} {v : V} (r : Rep K S.i S.F d v) : Rep K (S.adopt p).i (S.adopt p).F d v := r.mono (List.prefix_append _ _) (Ext.refl _)
theorem Reps.adopt {p : Addr} {d : List D} {v : List V} (r : Reps K S.i S.F d v) : Reps K (S.adopt p).i (S.adopt p).F d v := r.mono (List.prefix_append _ _) (Ext.refl _)
theorem Sta.adopt (sa : Sta K S m) {p : Addr} {ds : List D} {av : List V} (h0 : S.H p = some (.lst av)) (h1 : S.F p = none) (h2 : p ∉ S.i) (r : Reps K S.i S.F ds av) : Sta K (S.adopt p) (m ++ [.lst ds]) := by
  refine ⟨?_, by show (S.i ++ [p]).length = _; simp [sa.len], sa.sub, fun a ha => ?_, fun a ha => ?_, fun n a u e1 e2 => ?_, fun q hq => ?tb⟩
  case tb =>
    obtain ⟨ps, t1, t2, t3, t4, t5⟩ := sa.tb q hq
    exact ⟨ps, t1, t2, fun z => (List.mem_append.mp (show q.1 ∈ S.i ++ [p] from z)).elim t3 (fun z => by rw [List.mem_singleton.mp z, h0] at t1; cases t1), t4, t5⟩
  · show (S.i ++ [p]).Nodup
    refine List.nodup_append.mpr ⟨sa.nd, by simp, fun a ha b hb => ?_⟩
    have : b = p := List.mem_singleton.mp hb
    subst this
    exact fun z => h2 (z ▸ ha)
  · rcases List.mem_append.mp (show a ∈ S.i ++ [p] from ha) with z | z
    · exact sa.dis a z
    · have : a = p := List.mem_singleton.mp z
      subst this; exact h1
  · rcases List.mem_append.mp (show a ∈ S.i ++ [p] from ha) with z | z
    · exact sa.tr a z
    · have : a = p := List.mem_singleton.mp z
      subst this; exact ⟨_, h0⟩
  · have e1 : (S.i ++ [p])[n]? = some a := e1
    by_cases hn : n < S.i.length
    · rw [List.getElem?_append_left hn] at e1
      rw [List.getElem?_append_left (by rw [← sa.len]; exact hn)] at e2
      have q := sa.ok n a u e1 e2
      cases u with
      | lst ds => obtain ⟨xs, q1, q2⟩ := q; exact ⟨xs, q1, q2.adopt⟩
      | ins C fs => obtain ⟨dx, vs, q1, q2⟩ := q; exact ⟨dx, vs, q1, q2.mono (List.prefix_append _ _) (Ext.refl _)⟩
      | exo C d =>
        cases d with
        | none => exact q
        | some k => obtain ⟨dx, q1, q2⟩ := q; exact ⟨dx, pre_get (List.prefix_append _ _) q1, q2⟩
      | exd fs => obtain ⟨vs, q1, q2⟩ := q; exact ⟨vs, q1, q2.mono (List.prefix_append _ _) (Ext.refl _)⟩
      | dik kvs => obtain ⟨vs, q1, q0, q2⟩ := q; exact ⟨vs, q1, q0, q2.adopt⟩
      | dit kvs => obtain ⟨vs, q1, q0, q2⟩ := q; exact ⟨vs, q1, q0, q2.adopt⟩
    · have hn' : n = S.i.length := by
        have := (List.getElem?_eq_some_iff.mp e1).1
        simp at this; omega
      subst hn'
      rw [List.getElem?_append_right (Nat.le_refl _), Nat.sub_self] at e1
      rw [sa.len, List.getElem?_append_right (Nat.le_refl _), Nat.sub_self] at e2
      simp at e1 e2
      subst e1; subst e2
      exact ⟨av, h0, r.adopt⟩
theorem Stp.adopt (st : Stp T S) {p : Addr} (h : T.H p = none) : Stp T (S.adopt p) := ⟨st.pre.trans (List.prefix_append _ _), st.ext, fun a u hn h1 h2 h3 => by
  have ne : a ≠ p := ne_of_none h1 h
  obtain ⟨k1, k2, k3⟩ := st.frame a u hn h1 h2 h3
  refine ⟨k1, k2, fun z => ?_⟩
  rcases List.mem_append.mp (show a ∈ S.i ++ [p] from z) with z | z
  · exact k3 z
  · exact ne (List.mem_singleton.mp z), st.old⟩
end
open Classical in
/-- the elements, the store being as gd says at each turn -/
noncomputable def dCompG (gd : Mu → Prop) (g : DG) (c : DT) (b : DE) (e : En) : List D → Mu → List D → Res (List D)
  | [], m, acc => if gd m then .ok acc m else .stuck
  | d :: ds, m, acc => if gd m then (match g d e with
    | none => .stuck
    | some e1 => match c e1 m with
      | .ok true m1 => match b e1 m1 with
        | .ok x m2 => if acc.length < sizeLine then dCompG gd g c b e ds m2 (acc ++ [x]) else .stuck
        | _ => .stuck
      | .ok false m1 => dCompG gd g c b e ds m1 acc
      | _ => .stuck) else .stuck
def fF : List D → Mu → Res D := fun xs m => .ok (.lst xs) m
def fM : List D → Mu → Res D := fun xs m => .ok (.loc m.length) (m ++ [.lst xs])
/-- over a frozen list or one of the store -/
noncomputable def comp1 (fin : List D → Mu → Res D) (g : DG) (c : DT) (b : DE) (e : En) (d : D) (m : Mu) : Res D := match d with
  | .lst ds => (dCompL g c b e ds m []).bind fin
  | .loc n => match m[n]? with
    | some (.lst ds) => (dCompG (fun m => m[n]? = some (.lst ds)) g c b e ds m []).bind fin
    | _ => .stuck
  | _ => .stuck
noncomputable def dCompS (fin : List D → Mu → Res D) (t : DE) (g : DG) (c : DT) (b : DE) (own : List Nat) : DE := fun e m => (t e m).bind fun d m1 => comp1 fin g c b (wipeE e own) d m1
noncomputable def dCompM (t : DA) (g : DG) (c : DT) (b : DE) (own : List Nat) : DE := fun e m => (t e m).bind fun ds m1 => (dCompL g c b (wipeE e own) ds m1 []).bind fM
theorem compG_true (g : DG) (c : DT) (b : DE) (e : En) : ∀ (ds : List D) (m : Mu) (acc : List D), dCompG (fun _ => True) g c b e ds m acc = dCompL g c b e ds m acc
  | [], m, acc => by unfold dCompG dCompL; simp
  | d :: ds, m, acc => by
    unfold dCompG dCompL
    rw [if_pos trivial]
    cases g d e with
    | none => rfl
    | some e1 =>
      dsimp only
      cases c e1 m with
      | stuck => rfl
      | exc C fs m1 => rfl
      | ok k m1 =>
        cases k with
        | false => exact compG_true g c b e ds m1 acc
        | true =>
          dsimp only
          cases b e1 m1 with
          | stuck => rfl
          | exc C fs m2 => rfl
          | ok x m2 =>
            dsimp only
            rw [compG_true g c b e ds m2 (acc ++ [x])]
def ItOkG (K : PySem.W.Frag) (gd : Mu → Prop) (T : Wd) (J : It) (ds : List D) : Prop := ∀ (U : Wd) (m : Mu) (i : Nat), Stp T U → Sta K U m → gd m →
  (∀ d, ds[i]? = some d → J.go i U.H ∧ ∀ x H', J.yld i U.H x H' → ∃ Y : Wd, Y.H = H' ∧ Stp U Y ∧ Sta K Y m ∧ Rep K Y.i Y.F d x) ∧ (ds.length ≤ i → J.stop i U.H)
def FinOk (K : PySem.W.Frag) (fin : List D → Mu → Res D) : Prop := ∀ (T U : Wd) (m : Mu) (acc : List D) (av : List V) (p : Addr) (Q : VK) (W : XK), Stp T U → Sta K U m → T.H p = none → U.H p = some (.lst av) → U.F p = none → p ∉ U.i → Reps K U.i U.F acc av → PostD K T (fin acc m) Q W → Q (.ref p) U.H
theorem fin_F (K : PySem.W.Frag) : FinOk K fF := fun T U m acc av p Q W st sa h0 h1 h2 h3 r q =>
  q (.ref p) (U.keep p (.lst av)) (st.kept h0 h2) (sa.keep h1 h2 h3 (by exact nofun)) (.lst (.inl (.inl upd_same)) (r.mono (List.prefix_refl _) (Ext.updNew h2)))
theorem fin_M (K : PySem.W.Frag) : FinOk K fM := fun T U m acc av p Q W st sa h0 h1 h2 h3 r q =>
  q (.ref p) (U.adopt p) (st.adopt h0) (sa.adopt h1 h2 h3 r) (.loc (by
    show (U.i ++ [p])[m.length]? = some p
    rw [← sa.len, List.getElem?_append_right (Nat.le_refl _), Nat.sub_self]; rfl))
section
variable {X : Cx} {elt tg iter : Expr} {ifs : List Expr} {scope : Scope} {own : List (Str × Nat)} {pos spos : Pos} {t : DA} {ta : DE} {g : DG} {c : DT} {b : DE} {sl : List Nat} {fin : List D → Mu → Res D} {gd : Mu → Prop}
theorem lc_goG {σ : L2.St} {T : Wd} {r : En} {m1 : Mu} {Q : VK} {ds : List D} {J : It}
    (hg : ∀ s H C cl fp, PDG (Bk X scope s H C cl fp) tg g sl) (ht : ∀ s H C cl fp, PDTs (Bk X scope s H C cl fp) ifs c) (he : ∀ s H C cl fp, PDE (Bk X scope s H C cl fp) elt b)
    (hsl : ∀ i ∈ sl, i ∈ own.map (·.2)) (hfin : FinOk X.K fin)
    (sa1 : Sta X.K T m1) (re : RelE X.K T r σ) (hJ : ItOkG X.K gd T J ds) (p : PostD X.K T ((dCompG gd g c b (wipeE r (own.map (·.2))) ds m1 []).bind fin) Q (fun c d H => Fly X c d σ H)) :
    ∀ Dd : Addr, T.H Dd = none → ∃ Wi : Nat → Nat → Hp → Prop, (∃ n, Wi 0 n (upd T.H Dd (.lst []))) ∧ ∀ i n H', Wi i n H' →
      (J.stop i H' ∧ Q (.ref Dd) H') ∨ (J.go i H' ∧ ∃ N : Hp → Prop, (∀ H2, N H2 → ∃ n', n' < n ∧ Wi (i + 1) n' H2) ∧
        ∀ x H2, J.yld i H' x H2 → bG X scope tg x (wipe σ (own.map (·.2))) H2 fun σ1 H3 => wipe σ1 (own.map (·.2)) = wipe σ (own.map (·.2)) ∧
          bT X scope ifs σ1 H3 fun k H4 => if k = true then bE X scope elt σ1 H4 fun y H5 => ∃ xs, H5 Dd = some (.lst xs) ∧ xs.length < sizeLine ∧ N (upd H5 Dd (.lst (xs ++ [y]))) else N H4) := by
  intro Dd hD
  have reW : RelE X.K T (wipeE r (own.map (·.2))) (wipe σ (own.map (·.2))) := re.wipe _
  have f0 := sa1.fresh hD
  refine ⟨fun i n H' => n = ds.length - i ∧ i ≤ ds.length ∧ ∃ (U : Wd) (m' : Mu) (acc : List D) (av : List V), U.H = H' ∧ Stp T U ∧ Sta X.K U m' ∧ U.H Dd = some (.lst av) ∧ U.F Dd = none ∧ Dd ∉ U.i ∧ Reps X.K U.i U.F acc av ∧
      PostD X.K T ((dCompG gd g c b (wipeE r (own.map (·.2))) (ds.drop i) m' acc).bind fin) Q (fun c d H => Fly X c d σ H),
    ⟨ds.length, by simp, Nat.zero_le _, T.put Dd (.lst []), m1, [], [], rfl, (Stp.refl T).hid hD, sa1.hid f0.1 f0.2 (by rw [hD]; exact nofun), upd_same, f0.1, f0.2, .nil, p⟩, ?_⟩
  rintro i n H' ⟨rfl, hi', U, m', acc, av, rfl, stU, saU, hU1, hU2, hU3, rA, pU⟩
  by_cases hlt : i < ds.length
  · rw [List.drop_eq_getElem_cons hlt] at pU
    unfold dCompG at pU
    split at pU
    · rename_i hgd
      have hJ1 := (hJ U m' i stU saU hgd).1 _ (List.getElem?_eq_getElem hlt)
      refine .inr ⟨hJ1.1, fun H2 => i + 1 ≤ ds.length ∧ ∃ (U : Wd) (m' : Mu) (acc : List D) (av : List V), U.H = H2 ∧ Stp T U ∧ Sta X.K U m' ∧ U.H Dd = some (.lst av) ∧ U.F Dd = none ∧ Dd ∉ U.i ∧ Reps X.K U.i U.F acc av ∧
          PostD X.K T ((dCompG gd g c b (wipeE r (own.map (·.2))) (ds.drop (i + 1)) m' acc).bind fin) Q (fun c d H => Fly X c d σ H),
          fun H2 h2 => ⟨ds.length - (i + 1), by omega, rfl, h2.1, h2.2⟩, fun x H2 hy => ?_⟩
      obtain ⟨Y, rfl, stY, saY, rdY⟩ := hJ1.2 x H2 hy
      obtain ⟨y1, y2, y3⟩ := stY.frame Dd _ (by exact nofun) hU1 hU2 hU3
      have stT := stU.trans stY
      cases qg : g ds[i] (wipeE r (own.map (·.2))) with
      | none => rw [qg] at pU; exact (show False from pU).elim
      | some e1 =>
        rw [qg] at pU
        dsimp only at pU
        intro s0 H0 C0 cl0 fp0
        refine hg s0 H0 C0 cl0 fp0 Y (wipeE r (own.map (·.2))) m' (wipe σ (own.map (·.2))) ds[i] x e1 _ saY (reW.stp stT) rdY qg ?_
        intro σ1 re1 bs
        refine ⟨?_, ?_⟩
        · rw [bs _ hsl]
          exact wipe_wipe _ _
        intro s0 H0 C0 cl0 fp0
        cases qc : c e1 m' with
        | stuck => rw [qc] at pU; exact (show False from pU).elim
        | exc C fs m2 => rw [qc] at pU; exact (show False from pU).elim
        | ok k m2 =>
          rw [qc] at pU
          refine ht s0 H0 C0 cl0 fp0 Y e1 m' σ1 _ saY re1 ?_
          rw [qc]
          intro k' Z stZ saZ hk
          cases (show k = k' from hk)
          obtain ⟨z1, z2, z3⟩ := stZ.frame Dd _ (by exact nofun) y1 y2 y3
          cases k with
          | false =>
            exact iteF ⟨hlt, Z, m2, acc, av, rfl, stT.trans stZ, saZ, z1, z2, z3, (rA.stp stY).stp stZ, pU⟩
          | true =>
            refine iteT ?_
            intro s0 H0 C0 cl0 fp0
            dsimp only at pU
            cases qb : b e1 m2 with
            | stuck => rw [qb] at pU; exact (show False from pU).elim
            | exc C fs m3 => rw [qb] at pU; exact (show False from pU).elim
            | ok dx m3 =>
              rw [qb] at pU
              refine he s0 H0 C0 cl0 fp0 Z e1 m2 σ1 _ saZ (re1.stp stZ) ?_
              rw [qb]
              intro vx V1 stV saV rx
              obtain ⟨w1, w2, w3⟩ := stV.frame Dd _ (by exact nofun) z1 z2 z3
              dsimp only at pU
              split at pU
              · rename_i hlen
                refine ⟨av, w1, by rw [← rA.len]; exact hlen, hlt, V1.put Dd (.lst (av ++ [vx])), m3, acc ++ [dx], av ++ [vx], rfl, ((stT.trans stZ).trans stV).hid hD, saV.hid w2 w3 (by rw [w1]; exact nofun), upd_same, w2, w3, ((((rA.stp stY).stp stZ).stp stV)).append (.cons rx .nil), pU⟩
              · exact (show False from pU).elim
    · exact (show False from pU).elim
  · have e : i = ds.length := by omega
    subst e
    rw [List.drop_length] at pU
    unfold dCompG at pU
    split at pU
    · rename_i hgd
      exact .inl ⟨(hJ U m' _ stU saU hgd).2 (Nat.le_refl _), hfin T U m' acc av Dd Q _ stU saU hD hU1 hU2 hU3 rA pU⟩
    · exact (show False from pU).elim
theorem lc_goS {σ : L2.St} {S : Wd} {r : En} {m : Mu} {Q : VK} (hi : PDE X iter ta)
    (hg : ∀ s H C cl fp, PDG (Bk X scope s H C cl fp) tg g sl) (ht : ∀ s H C cl fp, PDTs (Bk X scope s H C cl fp) ifs c) (he : ∀ s H C cl fp, PDE (Bk X scope s H C cl fp) elt b)
    (hsl : ∀ i ∈ sl, i ∈ own.map (·.2)) (hfin : FinOk X.K fin)
    (sa : Sta X.K S m) (re : RelE X.K S r σ) (p : PostD X.K S (dCompS fin ta g c b (own.map (·.2)) r m) Q (fun c d H => Fly X c d σ H)) :
    tLc (iList X.K (WE X iter)) (bG X scope tg) (bT X scope ifs) (bE X scope elt) (own.map (·.2)) σ S.H Q := by
  refine hi S r m σ _ sa re (Post.bindI p fun d m1 v T st sa1 rd q => ?_)
  unfold comp1 at q
  split at q
  · rename_i ds
    obtain ⟨a, xs, rfl, hr, kk⟩ := frozen sa1 rd
    refine ⟨a, rfl, ⟨xs, (kk T m1 (Stp.refl T) sa1).1⟩, ?_⟩
    rw [← compG_true] at q
    refine lc_goG hg ht he hsl hfin sa1 (re.stp st) (fun U m' i st' sa' _ => ⟨fun d hd => ?_, fun hl => ⟨xs, (kk U m' st' sa').1, by rw [← hr.len]; exact hl⟩⟩) q
    obtain ⟨v, hv, rv⟩ := (kk U m' st' sa').2.get hd
    refine ⟨⟨xs, v, (kk U m' st' sa').1, hv⟩, fun x H' hy => ⟨U, hy.1.symm, Stp.refl U, sa', ?_⟩⟩
    have := hy.2 xs (kk U m' st' sa').1
    rw [hv] at this; cases this
    exact rv
  · rename_i n
    split at q
    · rename_i ds e0
      cases rd with
      | @loc _ a ha =>
      have look : ∀ U m', Stp T U → Sta X.K U m' → m'[n]? = some (.lst ds) → ∃ xs, SqL X.K U.H a xs ∧ Reps X.K U.i U.F ds xs := fun U m' st' sa' e' => by
        obtain ⟨xs, q1, q2⟩ := sa'.ok n a _ (pre_get st'.pre ha) e'
        exact ⟨xs, .inl (.inl q1), q2⟩
      obtain ⟨xs0, k1, k2⟩ := look T m1 (Stp.refl T) sa1 e0
      refine ⟨a, rfl, ⟨xs0, k1⟩, ?_⟩
      refine lc_goG (gd := fun m => m[n]? = some (.lst ds)) hg ht he hsl hfin sa1 (re.stp st) (fun U m' i st' sa' hgd => ?_) q
      obtain ⟨xs, l1, l2⟩ := look U m' st' sa' hgd
      refine ⟨fun d hd => ?_, fun hl => ⟨xs, l1, by rw [← l2.len]; exact hl⟩⟩
      obtain ⟨v, hv, rv⟩ := l2.get hd
      refine ⟨⟨xs, v, l1, hv⟩, fun x H' hy => ⟨U, hy.1.symm, Stp.refl U, sa', ?_⟩⟩
      have := hy.2 xs l1
      rw [hv] at this; cases this
      exact rv
    · exact (show False from q).elim
  · exact (show False from q).elim
theorem lc_goM {σ : L2.St} {S : Wd} {r : En} {m : Mu} {Q : VK} (hi : PDI X tg iter t)
    (hg : ∀ s H C cl fp, PDG (Bk X scope s H C cl fp) tg g sl) (ht : ∀ s H C cl fp, PDTs (Bk X scope s H C cl fp) ifs c) (he : ∀ s H C cl fp, PDE (Bk X scope s H C cl fp) elt b)
    (hsl : ∀ i ∈ sl, i ∈ own.map (·.2))
    (sa : Sta X.K S m) (re : RelE X.K S r σ) (p : PostD X.K S (dCompM t g c b (own.map (·.2)) r m) Q (fun c d H => Fly X c d σ H)) :
    tLc (WI X tg iter) (bG X scope tg) (bT X scope ifs) (bE X scope elt) (own.map (·.2)) σ S.H Q := by
  refine hi S r m σ _ sa re ?_
  unfold dCompM at p
  cases q : t r m with
  | stuck => rw [q] at p; exact p
  | exc C fs m1 => rw [q] at p; exact p
  | ok ds m1 =>
    rw [q] at p
    intro J T st sa1 hJ
    have pT : PostD X.K T ((dCompL g c b (wipeE r (own.map (·.2))) ds m1 []).bind fM) Q (fun c d H => Fly X c d σ H) := Post.step st p
    rw [← compG_true] at pT
    exact lc_goG hg ht he hsl (fin_M X.K) sa1 (re.stp st) (fun U m' i st' sa' _ => hJ U m' i st' sa') pT
abbrev mxBG (X : Cx) (scope : Scope) (tg : Expr) : ∀ s H C cl fp, PG (Bk X scope s H C cl fp) tg (bG X scope tg) := fun s H C cl fp => ⟨fun pins s1 σ H1 v u Q I r h => h s H C cl fp pins s1 u I r⟩
abbrev mxBT (X : Cx) (scope : Scope) (ifs : List Expr) : ∀ s H C cl fp, PTs (Bk X scope s H C cl fp) ifs (bT X scope ifs) := fun s H C cl fp => ⟨fun pins s1 σ H1 Q I h => h s H C cl fp pins s1 I⟩
abbrev mxBE (X : Cx) (scope : Scope) (elt : Expr) : ∀ s H C cl fp, PE (Bk X scope s H C cl fp) elt (bE X scope elt) := fun s H C cl fp => ⟨fun pins s1 σ H1 Q I h => h s H C cl fp pins s1 I⟩
theorem pd_lcS (hi : PDE X iter ta) (hN : X.N.Nodup) (ok : BlkOk X.N X.env.scope scope own)
    (hg : ∀ s H C cl fp, PDG (Bk X scope s H C cl fp) tg g sl) (ht : ∀ s H C cl fp, PDTs (Bk X scope s H C cl fp) ifs c) (he : ∀ s H C cl fp, PDE (Bk X scope s H C cl fp) elt b) (hfin : FinOk X.K fin)
    (hc : X.calm = true) (hsl : ∀ i ∈ sl, i ∈ own.map (·.2) := by decide) (hs : ∀ x, foldedSetIterable iter X.env x = pure x := by intro _; rfl) :
    PDE X (.ListComp elt [⟨tg, iter, ifs, 0⟩] scope pos) (dCompS fin ta g c b (own.map (·.2))) :=
  pd_of (pe_lc hc hN (pi_list (mxE X iter)) ok (mxBG X scope tg) (mxBT X scope ifs) (mxBE X scope elt) hs) fun S r m σ Q sa re p => lc_goS hi hg ht he hsl hfin sa re p
theorem pd_lcM (hi : PDI X tg iter t) (hN : X.N.Nodup) (ok : BlkOk X.N X.env.scope scope own)
    (hg : ∀ s H C cl fp, PDG (Bk X scope s H C cl fp) tg g sl) (ht : ∀ s H C cl fp, PDTs (Bk X scope s H C cl fp) ifs c) (he : ∀ s H C cl fp, PDE (Bk X scope s H C cl fp) elt b)
    (hc : X.calm = true) (hsl : ∀ i ∈ sl, i ∈ own.map (·.2) := by decide) (hs : ∀ x, foldedSetIterable iter X.env x = pure x := by intro _; rfl) :
    PDE X (.ListComp elt [⟨tg, iter, ifs, 0⟩] scope pos) (dCompM t g c b (own.map (·.2))) :=
  pd_of (pe_lc hc hN (mxI X tg iter) ok (mxBG X scope tg) (mxBT X scope ifs) (mxBE X scope elt) hs) fun S r m σ Q sa re p => lc_goM hi hg ht he hsl sa re p
theorem pds_setLcS {i : Nat} {y : Str} {py : Pos} (hi : PDE X iter ta) (hN : X.N.Nodup) (ok : BlkOk X.N X.env.scope scope own)
    (hg : ∀ s H C cl fp, PDG (Bk X scope s H C cl fp) tg g sl) (ht : ∀ s H C cl fp, PDTs (Bk X scope s H C cl fp) ifs c) (he : ∀ s H C cl fp, PDE (Bk X scope s H C cl fp) elt b) (hfin : FinOk X.K fin)
    (hc : X.calm = true) (hsw : swapsWith (.ListComp elt [⟨tg, iter, ifs, 0⟩] scope pos) (some (.Name y py)) spos.line X.env = pure true) (hsl : ∀ i ∈ sl, i ∈ own.map (·.2) := by decide) (hy : X.N[i]? = some y := by rfl) (hyl : X.env.scope.names.lookup y = some .local := by rfl) (hs : ∀ x, foldedSetIterable iter X.env x = pure x := by intro _; rfl) :
    PDS X (.Assign [.Name y py] (.ListComp elt [⟨tg, iter, ifs, 0⟩] scope pos) spos) (dSet i (dCompS fin ta g c b (own.map (·.2)))) := by
  refine ps_of (ps_setLc hc hN hy hyl hsw (pi_list (mxE X iter)) ok (mxBG X scope tg) (mxBT X scope ifs) (mxBE X scope elt) hs) fun S r m σ N sa re p => ?_
  exact lc_goS hi hg ht he hsl hfin sa re (PDE.stm re p fun d m1 v T st sa1 rd q => q _ T (Stp.refl T) sa1 ((re.stp st).set i rd))
theorem pds_setLcM {i : Nat} {y : Str} {py : Pos} (hi : PDI X tg iter t) (hN : X.N.Nodup) (ok : BlkOk X.N X.env.scope scope own)
    (hg : ∀ s H C cl fp, PDG (Bk X scope s H C cl fp) tg g sl) (ht : ∀ s H C cl fp, PDTs (Bk X scope s H C cl fp) ifs c) (he : ∀ s H C cl fp, PDE (Bk X scope s H C cl fp) elt b)
    (hc : X.calm = true) (hsw : swapsWith (.ListComp elt [⟨tg, iter, ifs, 0⟩] scope pos) (some (.Name y py)) spos.line X.env = pure true) (hsl : ∀ i ∈ sl, i ∈ own.map (·.2) := by decide) (hy : X.N[i]? = some y := by rfl) (hyl : X.env.scope.names.lookup y = some .local := by rfl) (hs : ∀ x, foldedSetIterable iter X.env x = pure x := by intro _; rfl) :
    PDS X (.Assign [.Name y py] (.ListComp elt [⟨tg, iter, ifs, 0⟩] scope pos) spos) (dSet i (dCompM t g c b (own.map (·.2)))) := by
  refine ps_of (ps_setLc hc hN hy hyl hsw (mxI X tg iter) ok (mxBG X scope tg) (mxBT X scope ifs) (mxBE X scope elt) hs) fun S r m σ N sa re p => ?_
  exact lc_goM hi hg ht he hsl sa re (PDE.stm re p fun d m1 v T st sa1 rd q => q _ T (Stp.refl T) sa1 ((re.stp st).set i rd))
end
end DL
namespace DL
open PySem PySem.Spec PyProof.Rows L2
variable [LamTab]
section
variable {X : Cx} {a : Expr} {ta : DE} {pos : Pos} {k : Nat}
def dNotO (rows : List (Kl × DFn)) (t : DE) : DE := fun e m => (dTrO rows t e m).bind fun b m => .ok (.bl !b) m
theorem pd_notO {rows : List (Kl × DFn)} (ha : PDE X a ta) (hrows : ∀ r ∈ rows, MRow X.prog X.w X.K X.mg X.base k "__bool__" r.1 r.2) (hr : Room k X.A) : PDE X (.UnaryOp .Not a pos) (dNotO rows ta) := by
  intro S r m σ Q sa re p pins s I
  unfold dNotO dTrO at p
  have p : PostD X.K S ((ta r m).bind fun d m => ((match dTru m d with
  | some b => .ok b m
  | none => match insOf m d with
    | some (C, ns, _) => match methAt rows C ns with
      | some G => (G [d] m).bind fun r m => match r with
        | .bl b => .ok b m
        | _ => .stuck
      | none => .stuck
    | none => .stuck) : Res Bool).bind fun b m => .ok (.bl !b) m) Q (fun c d H => Fly X c d σ H) := by
    cases h : ta r m with
    | stuck => rw [h] at p; exact p
    | exc C fs m1 => rw [h] at p; exact p
    | ok d m1 => rw [h] at p; exact p
  refine UnaryOp_ (thn (ha.run sa re p I) ?_)
  rintro u s1 ⟨x, d, m1, T, st, sa1, rd, rx, I1, q⟩
  split at q
  · rename_i b e
    exact not_of (tru_ok pins s1 σ T.H x u (fun b H => Q (.bl !b) H) I1 rx ⟨b, dTru_ok sa1 rd e, Post.ok q (Stp.refl T) sa1 (.bl _)⟩ |> fun h => thn h fun b s2 ⟨H2, I2, q2⟩ => ⟨.bl !b, H2, I2, rfl, q2⟩)
  · split at q
    · rename_i C ns ds ei
      split at q
      · rename_i G eG
        obtain ⟨c, ok, rfl, rfl⟩ := methAt_ok (P := MRow X.prog X.w X.K X.mg X.base k "__bool__") hrows eG
        obtain ⟨a, dx, vs, rfl, h1, h2, h3⟩ := insOf_ok sa1 rd ei
        obtain ⟨f, fd, ps, dds, G0, hf1, hf2, hk, hf, hb, rfl⟩ := ok.ex
        obtain rfl : u = Value.ref a := rx
        obtain ⟨od1, J1⟩ := Inv.inst I1 h1
        obtain ⟨mm, F⟩ := I1.fr
        have q : PostD X.K T ((padF ps.length dds G0 [d] m1).bind fun r m => ((match r with
          | .bl b => .ok b m
          | _ => .stuck : Res Bool)).bind fun b m => .ok (.bl !b) m) Q (fun c d H => Fly X c d σ H) := by
          cases h : padF ps.length dds G0 [d] m1 with
          | stuck => rw [h] at q; exact q
          | exc C fs m1 => rw [h] at q; exact q
          | ok d m1 => rw [h] at q; exact q
        refine not_of (PySem.W.truthy_K F I1.ok.mod.kin J1 hf1 hf2 (thn (run_fnA (us := [.ref a]) hf hr hb rfl I1 sa1 (.cons rd .nil) (.cons rfl .nil) (Post.bindI q fun r m2 v U st2 sa2 rv q2 => ?_)) fun v s2 h => boolBack (pins := pins) (σ := σ) h))
        cases rv with
        | bl b => exact ⟨b, rfl, fun s I => ⟨.bl !b, U.H, I, rfl, Post.ok q2 (Stp.refl U) sa2 (.bl _)⟩⟩
        | _ => exact (show False from q2).elim
      · exact (show False from q).elim
    · exact (show False from q).elim
end
end DL
namespace DL
open PySem PySem.Spec PyProof.Rows L2
variable [LamTab]
section
variable {X : Cx} {es : List Expr} {pos : Pos}
/-- a, b = a list -/
def dLstG (n : Nat) (g : List D → En → Option En) : DG := fun d e => match d with
  | .lst ds => if ds.length = n then g ds e else none
  | _ => none
@[simp ↓] theorem dLstG_ap (n : Nat) (g : List D → En → Option En) (d : D) (e : En) : dLstG n g d e = match d with
  | .lst ds => if ds.length = n then g ds e else none
  | _ => none := rfl
theorem pdg_lst {n k : Nat} {g : List D → En → Option En} {sl : List Nat} (hc : X.calm = true) (h : PDGs X es g sl) (hn : (assignEach es X.env).length = n := by rfl) (hst : (assignEach es X.env).findIdx? (·.1) = none := by rfl) : PDG X (.Tuple es k pos) (dLstG n g) sl := by
  intro S e m σ d v e1 Q sa re rd hh q pins s u I r
  cases rd with
  | lst h1 h2 =>
    unfold dLstG at hh
    dsimp only at hh
    split at hh
    · rename_i hl
      exact (pg_unl hc (mxGs X es) hn hst).run pins s σ S.H _ u Q I r ⟨_, _, rfl, SqL.ext' h1 sa.sub, by rw [← h2.len]; exact hl, h S e m σ _ _ e1 Q sa re h2 hh q⟩
    · cases hh
  | _ => cases hh
end
end DL
/-! ### equations for simp -/
namespace DL
open PySem PySem.Spec PyProof.Rows L2
variable [LamTab]
@[simp ↓] theorem dTrO_ap (rows : List (Kl × DFn)) (t : DE) (e : En) (m : Mu) : dTrO rows t e m = (t e m).bind fun d m => match dTru m d with
  | some b => .ok b m
  | none => match insOf m d with
    | some (C, ns, _) => match methAt rows C ns with
      | some G => (G [d] m).bind fun r m => match r with
        | .bl b => .ok b m
        | _ => .stuck
      | none => .stuck
    | none => .stuck := rfl
@[simp ↓] theorem dNotO_ap (rows : List (Kl × DFn)) (t : DE) (e : En) (m : Mu) : dNotO rows t e m = (dTrO rows t e m).bind fun b m => .ok (.bl !b) m := rfl
@[simp] theorem gCat_ap (x y : D) (m : Mu) : gCat x y m = match seqL m x, seqL m y with
  | some xs, some ys => if xs.length + ys.length ≤ sizeLine then .ok (.lst (xs ++ ys)) m else .stuck
  | _, _ => .stuck := rfl
@[simp] theorem gCatM_ap (x y : D) (m : Mu) : gCatM x y m = match seqL m x, seqL m y with
  | some xs, some ys => if xs.length + ys.length ≤ sizeLine then .ok (.loc m.length) (m ++ [.lst (xs ++ ys)]) else .stuck
  | _, _ => .stuck := rfl
@[simp] theorem seqL_loc (m : Mu) (n : Nat) : seqL m (.loc n) = match m[n]? with
  | some (.lst ds) => some ds
  | _ => none := rfl
@[simp] theorem eqRow_nil (C : Addr) (ns : List Str) : eqRow [] C ns = none := rfl
@[simp] theorem eqRow_cons (c : Kl) (G : DFn × List Tg) (rest : List (Kl × DFn × List Tg)) (C : Addr) (ns : List Str) : eqRow ((c, G) :: rest) C ns = if C = c.a ∧ ns = c.ns then some G else eqRow rest C ns := rfl
@[simp ↓] theorem dMethK_ap (rows : List (Kl × DFn)) (n nk : Nat) (to : DE) (t u : DA) (e : En) (m : Mu) : dMethK rows n nk to t u e m = (to e m).bind fun o m1 => match insOf m1 o with
  | some (C, ns, _) => match methAt rows C ns with
    | some G => (t e m1).bind fun ds m2 => (u e m2).bind fun zs m3 => if ds.length = n ∧ zs.length = nk then G (o :: (ds ++ zs)) m3 else .stuck
    | none => .stuck
  | none => .stuck := rfl
@[simp] theorem dOwnEq_ap (neg : Bool) (rows : List (Kl × DFn × List Tg)) (x y : D) (m : Mu) : dOwnEq neg rows x y m = match insOf m x with
  | some (C, ns, _) => match eqRow rows C ns, tagOf m y with
    | some (G, ts), some t => if t ∈ ts then ((G [x, y] m).bind fun r m1 => match r with
        | .bl b => .ok (.bl (neg ^^ b)) m1
        | _ => .stuck) else .stuck
    | _, _ => .stuck
  | none => .stuck := rfl
@[simp] theorem dOwnIn_ap (neg : Bool) (rows : List (Kl × DFn)) (x y : D) (m : Mu) : dOwnIn neg rows x y m = match insOf m y with
  | some (C, ns, _) => match methAt rows C ns with
    | some G => (G [y, x] m).bind fun r m1 => match r with
      | .bl b => .ok (.bl (neg ^^ b)) m1
      | _ => .stuck
    | _ => .stuck
  | none => .stuck := rfl
@[simp] theorem dOwnStr_ap (rows : List (Kl × DFn)) (x : D) (m : Mu) : dOwnStr rows [x] m = match insOf m x with
  | some (C, ns, _) => match methAt rows C ns with
    | some G => (G [x] m).bind fun r m1 => match r with
      | .str z => .ok (.str z) m1
      | _ => .stuck
    | none => .stuck
  | none => .stuck := rfl
@[simp ↓] theorem dFmt_ap (rows : List (Kl × DFn)) (t : DE) (e : En) (m : Mu) : dFmt rows t e m = (t e m).bind fun d m1 => match d with
  | .str y => if y.length ≤ sizeLine then .ok (.str y) m1 else .stuck
  | .int i => if i.natAbs.log2 < 1920 then .ok (.str (toString i)) m1 else .stuck
  | d => dOwnStr rows [d] m1 := rfl
@[simp ↓] theorem dJs_nil (acc : Str) (e : En) (m : Mu) : dJs [] acc e m = .ok (.str acc) m := rfl
@[simp ↓] theorem dJs_cons (t : DE) (ts : List DE) (acc : Str) (e : En) (m : Mu) : dJs (t :: ts) acc e m = (t e m).bind fun d m1 => match d with
  | .str y => if (acc ++ y).length ≤ sizeLine then dJs ts (acc ++ y) e m1 else .stuck
  | _ => .stuck := rfl
@[simp ↓] theorem dForS_ap (t : DE) (g : DG) (b : DS) (e : En) (m : Mu) : dForS t g b e m = rsOf e (t e m) fun d m1 => forS1 g b d e m1 := rfl
@[simp ↓] theorem dCompS_ap (fin : List D → Mu → Res D) (t : DE) (g : DG) (c : DT) (b : DE) (own : List Nat) (e : En) (m : Mu) : dCompS fin t g c b own e m = (t e m).bind fun d m1 => comp1 fin g c b (wipeE e own) d m1 := rfl
@[simp ↓] theorem dCompM_ap (t : DA) (g : DG) (c : DT) (b : DE) (own : List Nat) (e : En) (m : Mu) : dCompM t g c b own e m = (t e m).bind fun ds m1 => (dCompL g c b (wipeE e own) ds m1 []).bind fM := rfl
@[simp] theorem fF_ap (xs : List D) (m : Mu) : fF xs m = .ok (.lst xs) m := rfl
@[simp] theorem fM_ap (xs : List D) (m : Mu) : fM xs m = .ok (.loc m.length) (m ++ [.lst xs]) := rfl
@[simp] theorem comp1_lst (fin : List D → Mu → Res D) (g : DG) (c : DT) (b : DE) (e : En) (ds : List D) (m : Mu) : comp1 fin g c b e (.lst ds) m = (dCompL g c b e ds m []).bind fin := rfl
@[simp ↓] theorem dLm_ap (f : List D → List D → Option (List D × D)) (to : DE) (t : DA) (e : En) (m : Mu) : dLm f to t e m = (to e m).bind fun o m1 => match o with
  | .loc n => match m1[n]? with
    | some (.lst _) => (t e m1).bind fun ds m2 => match m2[n]? with
      | some (.lst xs) => match f xs ds with
        | some (ys, d) => .ok d (m2.set n (.lst ys))
        | none => .stuck
      | _ => .stuck
    | _ => .stuck
  | _ => .stuck := rfl
@[simp] theorem fAppend_ap (xs : List D) (d : D) : fAppend xs [d] = if xs.length < sizeLine then some (xs ++ [d], .non) else none := rfl
@[simp] theorem fClear_ap (xs : List D) : fClear xs [] = some ([], .non) := rfl
@[simp ↓] theorem dCompL_cons (g : DG) (c : DT) (b : DE) (e : En) (d : D) (ds : List D) (m : Mu) (acc : List D) : dCompL g c b e (d :: ds) m acc = match g d e with
    | none => .stuck
    | some e1 => match c e1 m with
      | .ok true m1 => match b e1 m1 with
        | .ok x m2 => if acc.length < sizeLine then dCompL g c b e ds m2 (acc ++ [x]) else .stuck
        | _ => .stuck
      | .ok false m1 => dCompL g c b e ds m1 acc
      | _ => .stuck := rfl
end DL

namespace DL
open PySem PySem.Spec PyProof.Rows L2
variable [LamTab]
section
variable {X : Cx} {e o : Expr} {es : List Expr} {t : DA} {pos p : Pos} {x : Str} {k : Nat} {C : Addr} {G : DFn}
/-! ### C(a, k=b) -/
structure KTK (P : Program) (w : World) (K : PySem.W.Frag) (mg : Str → Option Value) (base : Heap) (k : Nat) (x : Str) (n : Nat) (ks : List Str) (C : Addr) (G : DFn) : Prop where
  mgx : mg x = some (.ref C)
  ex : ∃ (f : Addr) (fd : FuncData) (ps : List Str) (pl : List Nat) (dds : List D) (G0 : DFn), Mk K C f ∧ FnD P w K mg base k f fd ps G0 ∧ BK K fd ps (n + 1) ks pl dds ∧ G = fun ds m => match pick pl (ds ++ dds) with
    | some xs => G0 xs m
    | none => .stuck
theorem run_mkK {n : Nat} {ks : List Str} {pins : List (Addr × Obj)} {σ : L2.St} {T : Wd} {m : Mu} {s : Shared} {Q : VK} {us ws : List Value} {vs zs : List V} {das dzs : List D} (F : KTK X.prog X.w X.K X.mg X.base k x n ks C G) (hr : Room (k + 1) X.A)
    (I : Inv X pins σ T.H s) (sa : Sta X.K T m) (r : Reps X.K T.i T.F das vs) (rz : Reps X.K T.i T.F dzs zs) (rv : Vals vs us) (rw : Vals zs ws) (hn : das.length = n) (hk : dzs.length = ks.length) (h : PostD X.K T (mkObj C m (G (.loc m.length :: (das ++ dzs)) (m ++ [.ins C []]))) Q (fun c d H => Fly X c d σ H)) :
    wpAny (model X.prog X.w) X.A (call (.ref C) us (ks.zip ws)) (EP X pins σ Q) X.xe s := by
  obtain ⟨f, fd, ps, pl, dds, G0, M, hf, hb, rfl⟩ := F.ex
  obtain ⟨dsv, dvs, hd1, hD, hB⟩ := hb.ex
  have nx : T.H (s.heap.objs.size + 1) = none := I.hok.fresh (Nat.le_succ _)
  have ndx : T.H s.heap.objs.size = none := I.hok.fresh (Nat.le_refl _)
  have ne : s.heap.objs.size ≠ s.heap.objs.size + 1 := Nat.ne_of_lt (Nat.lt_succ_self _)
  have I2 := Inv.made (C := C) I
  have st1 := Stp.new sa (o := .own (s.heap.objs.size + 1)) ndx
  have sa1 := sa.new (o := .own (s.heap.objs.size + 1)) ndx
  have nx1 : (T.new s.heap.objs.size (.own (s.heap.objs.size + 1))).H (s.heap.objs.size + 1) = none := by
    show upd T.H _ _ _ = none
    rw [upd_ne ne.symm]; exact nx
  have st2 := Stp.tok sa1 (o := .ins C s.heap.objs.size []) nx1
  have sa2 := sa1.tok (o := .ins C s.heap.objs.size []) nx1 (q := .ins C []) ⟨s.heap.objs.size, [], upd_same, .nil⟩
  have st12 := st1.trans st2
  generalize hT2 : (T.new s.heap.objs.size (.own (s.heap.objs.size + 1))).tok (s.heap.objs.size + 1) (.ins C s.heap.objs.size []) = T2 at st2 sa2 st12
  have hH2 : T2.H = upd (upd T.H s.heap.objs.size (.own (s.heap.objs.size + 1))) (s.heap.objs.size + 1) (.ins C s.heap.objs.size []) := by rw [← hT2]; rfl
  have hi2 : T2.i = T.i ++ [s.heap.objs.size + 1] := by rw [← hT2]; rfl
  have hloc : T2.i[m.length]? = some (s.heap.objs.size + 1) := by
    rw [hi2, ← sa.len, List.getElem?_append_right (Nat.le_refl _), Nat.sub_self]; rfl
  have r1 : Reps X.K T2.i T2.F ((.loc m.length :: (das ++ dzs)) ++ dds) ((V.ref (s.heap.objs.size + 1) :: vs ++ zs) ++ dvs) := (Reps.cons (.loc hloc) ((r.stp st12).append (rz.stp st12))).append (hD _ _)
  have r2 : Vals ((V.ref (s.heap.objs.size + 1) :: vs ++ zs) ++ dvs) ((Value.ref (s.heap.objs.size + 1) :: us ++ ws) ++ dsv) := (Vals.append (xs := V.ref (s.heap.objs.size + 1) :: vs) (us := Value.ref (s.heap.objs.size + 1) :: us) (.cons (show RelV (V.ref (s.heap.objs.size + 1)) (Value.ref (s.heap.objs.size + 1)) from rfl) rv) rw).append hd1
  dsimp only at h
  cases hp : pick pl (D.loc m.length :: (das ++ dzs) ++ dds) with
  | none => rw [hp] at h; exact (show False from h).elim
  | some xs =>
    rw [hp] at h
    have h : PostD X.K T (mkObj C m (G0 xs (m ++ [.ins C []]))) Q (fun c d H => Fly X c d σ H) := h
    have l1 : (Value.ref (s.heap.objs.size + 1) :: us).length = n + 1 := by rw [List.length_cons, ← rv.length, ← r.len, hn]
    have l2 : ws.length = ks.length := by rw [← rw.length, ← rz.len]; exact hk
    rw [← hH2] at I2
    obtain ⟨b1, b2⟩ := hB _ (Value.ref (s.heap.objs.size + 1) :: us) ws I2.kIn l1 l2
    have rp := pick_reps r1 hp
    have vp := vals_pick r2 pl
    have hlv : (pl.filterMap fun i => ((V.ref (s.heap.objs.size + 1) :: vs ++ zs) ++ dvs)[i]?).length = ps.length := by rw [vp.length]; exact b2
    have hsp : spD X.K ps.length G0 (pl.filterMap fun i => ((V.ref (s.heap.objs.size + 1) :: vs ++ zs) ++ dvs)[i]?) T2.H (fun v H2 => v = .non ∧ Q (.ref (s.heap.objs.size + 1)) H2) (fun c d H => Fly X c d σ H) := by
      refine ⟨hlv, T2, m ++ [.ins C []], _, rfl, sa2, rp, ?_⟩
      cases hG : G0 xs (m ++ [.ins C []]) with
      | stuck => rw [hG] at h; exact (show False from h).elim
      | exc C' fs m2 =>
        rw [hG] at h
        exact fun dd vs' Z stZ hn saZ h1 h2 => h dd vs' Z (st12.trans stZ) (st12.old dd hn) saZ h1 h2
      | ok dv m2 =>
        rw [hG] at h
        intro v Z stZ saZ rdv
        unfold mkObj at h
        split at h
        · rename_i heq
          cases heq
          cases rdv
          refine ⟨rfl, ?_⟩
          split at h
          · rename_i C' fs e1
            split at h
            · rename_i hc
              obtain ⟨rfl, hm2, hcl, hbel⟩ := hc
              have hzi := pre_get stZ.pre hloc
              obtain ⟨dx, vv, q1, q2⟩ := saZ.ok _ _ _ hzi e1
              have htk : m2.take m.length = m := by rw [hm2]; simp
              have stTZ := st12.trans stZ
              obtain ⟨c1, c2⟩ := cut_ok sa stTZ saZ (by rw [htk]; exact hcl)
              rw [htk] at c2
              have hbel' : belows T.i.length (fs.map (·.2)) = true := by rw [sa.len]; exact hbel
              refine h (.ref (s.heap.objs.size + 1)) (Z.cut T.i) c1 c2 (.obj (dx := dx) (vs := vv) ?_ q2.split.1 (q2.split.2.cut saZ stTZ.pre hbel'))
              rw [cut_at sa stTZ saZ (Nat.le_refl _) hzi]
              exact q1
            · exact h.elim
          · exact h.elim
        · rename_i heq; cases heq
        · exact h.elim
    refine wpAny_call (make_map (f := f) I.kIn M.makes M.init (beq_iff_eq.mp M.fn) (codeAny_mono (hf.run _ X.stack _ _ ⟨Value.ref (s.heap.objs.size + 1) :: us, ks.zip ws⟩ _ _ _ _ (hr.make C us (ks.zip ws))
      (I2.env0.make C us (ks.zip ws)) b1 vp hsp) fun r s' hq' => ?_))
    cases r with
    | error e =>
      obtain ⟨a, B, sI, pins', σ', H', cls, d, e1, I', nb, up, sky, na, os, ag, e2, fl⟩ := XE.of_call I2 (W := fun c d σ' H => σ' = σ ∧ Fly X c d σ H) (fun cls d H' h => ⟨rfl, h⟩) hq'
      exact fl e s' ⟨a, B, sI, pins', σ', H', cls, d, e1, I', nb, up, sky, na, os, ag, rfl, rfl, e2, rfl⟩
    | ok fl =>
      cases fl with
      | ret u =>
        obtain ⟨v, H', I3, rv3, ev, q3⟩ := I2.after hq'
        subst ev
        exact ⟨rv3, ⟨V.ref (s.heap.objs.size + 1), H', I3, rfl, q3⟩⟩
      | next => exact False.elim hq'
      | brk => exact False.elim hq'
      | cont => exact False.elim hq'
noncomputable def dMakeK (C : Addr) (G : DFn) (n nk : Nat) (t u : DA) : DE := fun e m => (t e m).bind fun ds m1 => (u e m1).bind fun zs m2 => if ds.length = n ∧ zs.length = nk then mkObj C m2 (G (.loc m2.length :: (ds ++ zs)) (m2 ++ [.ins C []])) else .stuck
@[simp ↓] theorem dMakeK_ap (C : Addr) (G : DFn) (n nk : Nat) (t u : DA) (e : En) (m : Mu) : dMakeK C G n nk t u e m = (t e m).bind fun ds m1 => (u e m1).bind fun zs m2 => if ds.length = n ∧ zs.length = nk then mkObj C m2 (G (.loc m2.length :: (ds ++ zs)) (m2 ++ [.ins C []])) else .stuck := rfl
theorem pd_makeK {n : Nat} {ks : List Str} {kws : List Keyword} {tk : DA} (F : KTK X.prog X.w X.K X.mg X.base k x n ks C G) (hr : Room (k + 1) X.A) (ha : PDA X (e :: es) t) (hkw : PDK X kws tk)
    (hks : (backToKw pos (keywordEach kws X.env)).filterMap (·.1) = ks := by rfl) (hall : (backToKw pos (keywordEach kws X.env)).all (·.1.isSome) = true := by rfl)
    (hg : Gl X x := by rfl) (hdb : (x == ("__debug__" : Str)) = false := by decide) (he : starEach (e :: es) X.env = (false, eval e X.env) :: starEach es X.env := by exact se_cons _ _ _ rfl)
    (hpl : ((backTo pos (starEach (e :: es) X.env)).any (·.1) || (backToKw pos (keywordEach kws X.env)).any (·.1.isNone)) = false := by rfl) :
    PDE X (.Call (.Name x p) (e :: es) kws pos) (dMakeK C G n ks.length t tk) := by
  intro S r m σ Q sa re q pins s I
  refine wpAny_Call_Name_kw (ld_glob I hg F.mgx ?_ hdb)
  obtain ⟨_, _, _, _, _, _, M, _⟩ := F.ex
  refine PySem.W.callWith_KW (h₀ := X.base) I.ok.mod.kin M.kp hall (thn (ha.run sa re q I pos) ?_) hpl he
  rintro us s1 ⟨xs, das, m1, T, st, sa1, rds, rv, I1, q1⟩
  refine thn (hkw.run sa1 (re.stp st) q1 I1 pos) ?_
  rintro ws s2 ⟨zs, dzs, m2, U, st2, sa2, rdz, rz, I2, q2⟩
  refine ⟨I2.kIn, ?_⟩
  rw [hks]
  split at q2
  · rename_i hl
    exact run_mkK F hr I2 sa2 (rds.stp st2) rdz rv rz hl.1 hl.2 q2
  · exact q2.elim
theorem pd_makeK0 {ks : List Str} {kws : List Keyword} {tk : DA} (F : KTK X.prog X.w X.K X.mg X.base k x 0 ks C G) (hr : Room (k + 1) X.A) (hkw : PDK X kws tk)
    (hks : (backToKw pos (keywordEach kws X.env)).filterMap (·.1) = ks := by rfl) (hall : (backToKw pos (keywordEach kws X.env)).all (·.1.isSome) = true := by rfl)
    (hg : Gl X x := by rfl) (hdb : (x == ("__debug__" : Str)) = false := by decide)
    (hpl : ((backTo pos (starEach [] X.env)).any (·.1) || (backToKw pos (keywordEach kws X.env)).any (·.1.isNone)) = false := by rfl) :
    PDE X (.Call (.Name x p) [] kws pos) (dMakeK C G 0 ks.length dNil tk) := by
  intro S r m σ Q sa re q pins s I
  refine wpAny_Call_Name_kw (ld_glob I hg F.mgx ?_ hdb)
  obtain ⟨_, _, _, _, _, _, M, _⟩ := F.ex
  refine PySem.W.callWith_KW0 (first := []) (h₀ := X.base) I.ok.mod.kin M.kp hall (thn (hkw.run sa re (f := fun zs m3 => if ([] : List D).length = 0 ∧ zs.length = ks.length then _ else .stuck) q I pos) ?_) hpl
  rintro ws s2 ⟨zs, dzs, m2, U, st2, sa2, rdz, rz, I2, q2⟩
  refine ⟨I2.kIn, ?_⟩
  rw [hks]
  split at q2
  · rename_i hl
    exact run_mkK (us := []) (vs := []) (das := []) F hr I2 sa2 .nil rdz .nil rz rfl hl.2 q2
  · exact q2.elim
/-! ### min and max of a list of ints -/
theorem foldl_min_le : ∀ (xs : List Int) (a : Int), xs.foldl min a ≤ a ∧ (∀ y ∈ xs, xs.foldl min a ≤ y) ∧ (xs.foldl min a = a ∨ xs.foldl min a ∈ xs)
  | [], a => ⟨Int.le_refl _, fun _ h => (nomatch h), .inl rfl⟩
  | x :: xs, a => by
    obtain ⟨h1, h2, h3⟩ := foldl_min_le xs (min a x)
    refine ⟨by simp only [List.foldl_cons]; omega, fun y hy => ?_, ?_⟩
    · simp only [List.foldl_cons]
      rcases List.mem_cons.mp hy with e | e
      · subst e; omega
      · exact h2 y e
    · simp only [List.foldl_cons]
      rcases h3 with h3 | h3
      · rw [h3]
        by_cases z : a ≤ x
        · exact .inl (by omega)
        · exact .inr (by rw [show min a x = x by omega]; exact List.mem_cons_self)
      · exact .inr (List.mem_cons_of_mem _ h3)
theorem foldl_max_ge : ∀ (xs : List Int) (a : Int), a ≤ xs.foldl max a ∧ (∀ y ∈ xs, y ≤ xs.foldl max a) ∧ (xs.foldl max a = a ∨ xs.foldl max a ∈ xs)
  | [], a => ⟨Int.le_refl _, fun _ h => (nomatch h), .inl rfl⟩
  | x :: xs, a => by
    obtain ⟨h1, h2, h3⟩ := foldl_max_ge xs (max a x)
    refine ⟨by simp only [List.foldl_cons]; omega, fun y hy => ?_, ?_⟩
    · simp only [List.foldl_cons]
      rcases List.mem_cons.mp hy with e | e
      · subst e; omega
      · exact h2 y e
    · simp only [List.foldl_cons]
      rcases h3 with h3 | h3
      · rw [h3]
        by_cases z : x ≤ a
        · exact .inl (by omega)
        · exact .inr (by rw [show max a x = x by omega]; exact List.mem_cons_self)
      · exact .inr (List.mem_cons_of_mem _ h3)
theorem minI_ok : ∀ {ns : List Int}, 0 < ns.length → minI ns ∈ ns ∧ ∀ y ∈ ns, minI ns ≤ y
  | x :: xs, _ => by
    obtain ⟨h1, h2, h3⟩ := foldl_min_le xs x
    refine ⟨?_, fun y hy => ?_⟩
    · rcases h3 with h3 | h3
      · exact List.mem_cons.mpr (.inl h3)
      · exact List.mem_cons_of_mem _ h3
    · rcases List.mem_cons.mp hy with e | e
      · subst e; exact h1
      · exact h2 y e
theorem maxI_ok : ∀ {ns : List Int}, 0 < ns.length → maxI ns ∈ ns ∧ ∀ y ∈ ns, y ≤ maxI ns
  | x :: xs, _ => by
    obtain ⟨h1, h2, h3⟩ := foldl_max_ge xs x
    refine ⟨?_, fun y hy => ?_⟩
    · rcases h3 with h3 | h3
      · exact List.mem_cons.mpr (.inl h3)
      · exact List.mem_cons_of_mem _ h3
    · rcases List.mem_cons.mp hy with e | e
      · subst e; exact h1
      · exact h2 y e
def gMinL : DFn := fun ds m => match ds with
  | [d] => match (seqL m d).bind toIs with
    | some (n :: ns) => .ok (.int (minI (n :: ns))) m
    | _ => .stuck
  | _ => .stuck
def gMaxL : DFn := fun ds m => match ds with
  | [d] => match (seqL m d).bind toIs with
    | some (n :: ns) => .ok (.int (maxI (n :: ns))) m
    | _ => .stuck
  | _ => .stuck
@[simp] theorem gMinL_ap (d : D) (m : Mu) : gMinL [d] m = match (seqL m d).bind toIs with
    | some (n :: ns) => .ok (.int (minI (n :: ns))) m
    | _ => .stuck := rfl
@[simp] theorem gMaxL_ap (d : D) (m : Mu) : gMaxL [d] m = match (seqL m d).bind toIs with
    | some (n :: ns) => .ok (.int (maxI (n :: ns))) m
    | _ => .stuck := rfl
theorem oc_minL (hc : X.calm = true) : OC X (.builtin "min") gMinL := by
  refine oc_of (cr_min hc) fun S m ds xs Q W sa rs p => ?_
  unfold gMinL at p
  split at p
  · rename_i d
    cases q : seqL m d with
    | none => rw [q] at p; exact (show False from p).elim
    | some es =>
      rw [q] at p
      cases q2 : toIs es with
      | none => rw [show (some es).bind toIs = toIs es from rfl, q2] at p; exact (show False from p).elim
      | some bs =>
        rw [show (some es).bind toIs = toIs es from rfl, q2] at p
        obtain ⟨v, rfl, r⟩ := reps1 rs
        obtain ⟨a, ys, rfl, h1, h2⟩ := seqL_ok sa r q
        have := toIs_ok h2 q2
        subst this
        cases bs with
        | nil => exact (show False from p).elim
        | cons n ns =>
          have hl : 0 < (n :: ns).length := Nat.succ_pos _
          refine ⟨a, n :: ns, rfl, h1, hl, fun m' hm hle => ?_⟩
          obtain ⟨k1, k2⟩ := minI_ok hl
          have : m' = minI (n :: ns) := by have := hle _ k1; have := k2 _ hm; omega
          subst this
          exact Post.ok p (Stp.refl S) sa (.int _)
  · exact p.elim
theorem oc_maxL (hc : X.calm = true) : OC X (.builtin "max") gMaxL := by
  refine oc_of (cr_max hc) fun S m ds xs Q W sa rs p => ?_
  unfold gMaxL at p
  split at p
  · rename_i d
    cases q : seqL m d with
    | none => rw [q] at p; exact (show False from p).elim
    | some es =>
      rw [q] at p
      cases q2 : toIs es with
      | none => rw [show (some es).bind toIs = toIs es from rfl, q2] at p; exact (show False from p).elim
      | some bs =>
        rw [show (some es).bind toIs = toIs es from rfl, q2] at p
        obtain ⟨v, rfl, r⟩ := reps1 rs
        obtain ⟨a, ys, rfl, h1, h2⟩ := seqL_ok sa r q
        have := toIs_ok h2 q2
        subst this
        cases bs with
        | nil => exact (show False from p).elim
        | cons n ns =>
          have hl : 0 < (n :: ns).length := Nat.succ_pos _
          refine ⟨a, n :: ns, rfl, h1, hl, fun m' hm hle => ?_⟩
          obtain ⟨k1, k2⟩ := maxI_ok hl
          have : m' = maxI (n :: ns) := by have := hle _ k1; have := k2 _ hm; omega
          subst this
          exact Post.ok p (Stp.refl S) sa (.int _)
  · exact p.elim
end
end DL

namespace DL
open PySem PySem.Spec PyProof.Rows L2
variable [LamTab]
section
variable {X : Cx} {a b e o tg : Expr} {es : List Expr} {ta tb to te : DE} {t : DA} {pos p apos : Pos} {k : Nat}
/-! ### texts -/
def toSs : List D → Option (List Str)
  | [] => some []
  | .str b :: ds => match toSs ds with
    | some bs => some (b :: bs)
    | none => none
  | _ => none
theorem toSs_ok {K : PySem.W.Frag} {i : List Addr} {F : Hp} : ∀ {ds : List D} {xs : List V} {bs : List Str}, Reps K i F ds xs → toSs ds = some bs → xs = bs.map V.str
  | [], _, _, r, h => by cases r; cases h; rfl
  | d :: ds, _, _, r, h => by
    cases r with
    | cons h1 h2 =>
      cases h1 with
      | str b =>
        unfold toSs at h
        cases q : toSs ds with
        | none => rw [q] at h; cases h
        | some bs => rw [q] at h; cases h; rw [toSs_ok h2 q]; rfl
      | _ => simp [toSs] at h
def dJoin (to te : DE) : DE := fun e m => (to e m).bind fun o m1 => match o with
  | .str a => (te e m1).bind fun d m2 => match (seqA m2 d).bind toSs with
    | some ys => if (ys.map (·.length)).sum + ys.length * a.length ≤ 16777216 then .ok (.str (Txt.join a ys)) m2 else .stuck
    | none => .stuck
  | _ => .stuck
@[simp ↓] theorem dJoin_ap (to te : DE) (e : En) (m : Mu) : dJoin to te e m = (to e m).bind fun o m1 => match o with
  | .str a => (te e m1).bind fun d m2 => match (seqA m2 d).bind toSs with
    | some ys => if (ys.map (·.length)).sum + ys.length * a.length ≤ 16777216 then .ok (.str (Txt.join a ys)) m2 else .stuck
    | none => .stuck
  | _ => .stuck := rfl
theorem pd_join (ho : PDE X o to) (he : PDE X e te) (hs : starEach [e] X.env = [(false, eval e X.env)] := by rfl) (hbase : attributeBase o "join" X.env (eval o X.env) = eval o X.env := by rfl) (hline : (apos.endLine == pos.line) = true := by rfl) :
    PDE X (.Call (.Attribute o "join" apos) [e] [] pos) (dJoin to te) := by
  refine pd_of (pe_join (mxE X o) (mxE X e) hs hbase hline) fun S r m σ Q sa re p => ?_
  refine ho S r m σ _ sa re (Post.bindI p fun od m1 v T st sa1 rd q => ?_)
  split at q
  · rename_i a
    cases rd
    refine ⟨⟨a, rfl⟩, he T r m1 σ _ sa1 (re.stp st) (Post.bindI q fun d m2 w U st2 sa2 rw q2 => ?_)⟩
    split at q2
    · rename_i ys e1
      split at q2
      · rename_i hl
        cases qs : seqA m2 d with
        | none => rw [qs] at e1; cases e1
        | some ds =>
          rw [qs] at e1
          have e1 : toSs ds = some ys := e1
          have fin := Post.ok q2 (Stp.refl U) sa2 (.str (Txt.join a ys))
          unfold seqA at qs
          cases q3 : seqL m2 d with
          | some zs =>
            rw [q3] at qs
            cases qs
            obtain ⟨pp, xs, rfl, h1, h2⟩ := seqL_ok sa2 rw q3
            have := toSs_ok h2 e1
            subst this
            exact ⟨a, pp, ys, rfl, rfl, .inl h1, hl, fin⟩
          | none =>
            rw [q3] at qs
            obtain ⟨pp, xs, rfl, h1, h2⟩ := seqT_ok sa2 rw qs
            have := toSs_ok h2 e1
            subst this
            exact ⟨a, pp, ys, rfl, rfl, .inr h1, hl, fin⟩
      · exact q2.elim
    · exact q2.elim
  · exact q.elim
/-- a text's signs -/
def signs (x : Str) : List D := x.cps.toList.map fun c => .str ⟨#[c]⟩
def dItStr (t : DE) : DA := fun e m => (t e m).bind fun d m1 => match d with
  | .str x => .ok (signs x) m1
  | _ => .stuck
@[simp ↓] theorem dItStr_ap (t : DE) (e : En) (m : Mu) : dItStr t e m = (t e m).bind fun d m1 => match d with
  | .str x => .ok (signs x) m1
  | _ => .stuck := rfl
theorem pdi_str (ha : PDE X a ta) : PDI X tg a (dItStr ta) := by
  refine pdi_of (pi_str (mxE X a)) fun S r m σ R sa re p => ?_
  refine ha S r m σ _ sa re (PostI.bindI p fun d m1 v T st sa1 rd q => ?_)
  split at q
  · rename_i x
    cases rd
    refine ⟨x, rfl, q _ T (Stp.refl T) sa1 fun U m' i st' sa' => ⟨fun d hd => ?_, fun hl => ?_⟩⟩
    · unfold signs at hd
      rw [List.getElem?_map] at hd
      cases h : x.cps.toList[i]? with
      | none => rw [h] at hd; cases hd
      | some c =>
        rw [h] at hd
        cases hd
        have hi : i < x.cps.size := by simpa using (List.getElem?_eq_some_iff.mp h).1
        refine ⟨hi, fun y H' hy => ⟨U, hy.1.symm, Stp.refl U, sa', ?_⟩⟩
        obtain ⟨c', hc, rfl⟩ := hy.2
        have : c' = c := by
          rw [← Array.getElem?_toList] at hc
          rw [h] at hc
          exact (Option.some.inj hc).symm
        subst this
        exact .str _
    · show x.cps.size ≤ i
      unfold signs at hl
      simpa using hl
  · exact q.elim
/-- a slice of a text -/
def dSlStr (t : DE) (lo hi : DO) : DE := fun e m => (t e m).bind fun d m1 => (lo e m1).bind fun l m2 => (hi e m2).bind fun h m3 => match d with
  | .str z => if z.length ≤ sizeLine then .ok (.str (cutS z l h)) m3 else .stuck
  | _ => .stuck
@[simp ↓] theorem dSlStr_ap (t : DE) (lo hi : DO) (e : En) (m : Mu) : dSlStr t lo hi e m = (t e m).bind fun d m1 => (lo e m1).bind fun l m2 => (hi e m2).bind fun h m3 => match d with
  | .str z => if z.length ≤ sizeLine then .ok (.str (cutS z l h)) m3 else .stuck
  | _ => .stuck := rfl
theorem pd_slStr {lo hi : Option Expr} {tl th : DO} {p2 : Pos} (ha : PDE X a ta) (hl : PDO X lo tl) (hh : PDO X hi th) : PDE X (.Subscript a (.Slice lo hi none p2) pos) (dSlStr ta tl th) := by
  obtain ⟨ul, hl1, hl2⟩ := hl
  obtain ⟨uh, hh1, hh2⟩ := hh
  refine pd_of (pe_slice sl_str (mxE X a) hl1 hh1) fun S r m σ Q sa re p => ?_
  refine ha S r m σ _ sa re (Post.bindI p fun d m1 v T st sa1 rd q => ?_)
  refine hl2 T r m1 σ _ sa1 (re.stp st) (Post.bindI q fun l m2 l' U st2 sa2 rl q2 => ?_)
  have rl : l = l' := rl
  subst rl
  refine hh2 U r m2 σ _ sa2 ((re.stp st).stp st2) (Post.bindI q2 fun h m3 h' Y st3 sa3 rh q3 => ?_)
  have rh : h = h' := rh
  subst rh
  split at q3
  · rename_i z
    cases rd
    split at q3
    · rename_i hz
      exact ⟨z, rfl, hz, Post.ok q3 (Stp.refl Y) sa3 (.str _)⟩
    · exact q3.elim
  · exact q3.elim
/-- a slice of a tuple -/
def dSlT (t : DE) (lo hi : DO) : DE := fun e m => (t e m).bind fun d m1 => (lo e m1).bind fun l m2 => (hi e m2).bind fun h m3 => match d with
  | .tup ds => .ok (.tup (cutD ds l h)) m3
  | _ => .stuck
@[simp ↓] theorem dSlT_ap (t : DE) (lo hi : DO) (e : En) (m : Mu) : dSlT t lo hi e m = (t e m).bind fun d m1 => (lo e m1).bind fun l m2 => (hi e m2).bind fun h m3 => match d with
  | .tup ds => .ok (.tup (cutD ds l h)) m3
  | _ => .stuck := rfl
theorem cutV_whole {xs : List V} {lo hi : Option Int} (h : HT.sIx xs.length 0 lo = 0 ∧ HT.sIx xs.length xs.length hi = xs.length) : cutV xs lo hi = xs := by
  unfold cutV
  rw [h.1, h.2]; simp
theorem pd_slT {lo hi : Option Expr} {tl th : DO} {p2 : Pos} (ha : PDE X a ta) (hl : PDO X lo tl) (hh : PDO X hi th) : PDE X (.Subscript a (.Slice lo hi none p2) pos) (dSlT ta tl th) := by
  obtain ⟨ul, hl1, hl2⟩ := hl
  obtain ⟨uh, hh1, hh2⟩ := hh
  refine pd_of (pe_slice sl_tupA (mxE X a) hl1 hh1) fun S r m σ Q sa re p => ?_
  refine ha S r m σ _ sa re (Post.bindI p fun d m1 v T st sa1 rd q => ?_)
  refine hl2 T r m1 σ _ sa1 (re.stp st) (Post.bindI q fun l m2 l' U st2 sa2 rl q2 => ?_)
  have rl : l = l' := rl
  subst rl
  refine hh2 U r m2 σ _ sa2 ((re.stp st).stp st2) (Post.bindI q2 fun h m3 h' Y st3 sa3 rh q3 => ?_)
  have rh : h = h' := rh
  subst rh
  split at q3
  · rename_i ds
    have rd3 := (rd.stp st2).stp st3
    cases rd3 with
    | @tup _ a' xs h1 h2 =>
      have rc := cut_reps h2 l h
      refine ⟨a', xs, rfl, SqT.ext' h1 sa3.sub, fun hw => ?_, fun hw n hn => ?_⟩
      · rw [cutV_whole hw] at rc
        exact Post.ok q3 (Stp.refl Y) sa3 (.tup h1 rc)
      · have st4 := Stp.new sa3 (o := .tup (cutV xs l h)) hn
        exact q3 (.ref n) (Y.new n (.tup (cutV xs l h))) st4 (sa3.new hn) (.tup (.inl (.inl upd_same)) (rc.stp st4))
  · exact q3.elim
end
end DL

namespace GQ
open PySem PySem.SeqAt
open AutoSeq1 (wpAny_loadPart')
open MeetsSeq MeetsSeq2 MeetsSeq3 SeqRoads2
section
variable {prog : Program} {w : World} {A : Around} {R : Result → Shared → Prop}
/-- two lists of N items each at s -/
def TwoL (l b : Addr) (N : Nat) (s : Shared) : Prop := ∃ (items items2 : Array Value) (n n2 : Nat) (dd dd2 : Option Addr) (sl sl2 : Array (Option Value)), s.heap.get? l = some { cls := .type "list", dict := dd, data := .seq items n, slots := sl } ∧ s.heap.get? b = some { cls := .type "list", dict := dd2, data := .seq items2 n2, slots := sl2 } ∧ items.size = N ∧ items2.size = N
/-- at each turn: equal and on, or different and Fl -/
def ListB (prog : Program) (w : World) (A : Around) (E : Value → Shared → Prop) (l b : Addr) (N : Nat) (I : Nat → Shared → Prop) (Fl : Shared → Prop) : Prop :=
  ∀ i s, I i s → ∃ (items items2 : Array Value) (n n2 : Nat) (dd dd2 : Option Addr) (sl sl2 : Array (Option Value)), s.heap.get? l = some { cls := .type "list", dict := dd, data := .seq items n, slots := sl } ∧ s.heap.get? b = some { cls := .type "list", dict := dd2, data := .seq items2 n2, slots := sl2 } ∧ items.size = N ∧ items2.size = N ∧
    ∀ (h1 : i < items.size) (h2 : i < items2.size), wpAny (model prog w) A.in1 (eqBool items[i] items2[i]) (fun r s' => if r then I (i + 1) s' else Fl s' ∧ TwoL l b N s') E s

theorem eq_loopE (l b : Addr) (N : Nat) (I : Nat → Shared → Prop) (Fl : Shared → Prop) (hl : ListB prog w A (fun e s' => R (.error e) s') l b N I Fl)
    (fin : ∀ s, I N s → R (.ok (.ret (.bool true))) s) (fal : ∀ s, Fl s → R (.ok (.ret (.bool false))) s) (k : Nat) :
    ∀ i : Nat, N - i = k → i ≤ N → ∀ s, I i s →
      wpAny (model prog w) A.in1 (Builtin.«list.__eq__.loop» ⟨[.ref l, .ref b, rawInt i, rawInt 2], []⟩) (FinOf prog w A R) (fun e s' => R (.error e) s') s := by
  induction k with
  | zero =>
    intro i hk hi s h
    obtain ⟨items, items2, n, n2, dd, dd2, sl, sl2, hl1, hb1, hs1, hs2, _⟩ := hl _ _ h
    have hi' : i = N := by omega
    have hR := fin s (hi' ▸ h)
    obtain ⟨hp, g, d, tk, os⟩ := s
    wp_walk using wpAny_loadPart' hl1, wpAny_loadPart' hb1
    have hi1 : items[((i : Nat) : Int).toNat]? = none := by simp; omega
    have hi2 : items2[((i : Nat) : Int).toNat]? = none := by simp; omega
    rw [hi1, hi2]
    wp_walk using wpAny_loadPart' hl1, wpAny_loadPart' hb1
    show R (.ok (.ret (.bool (items.size == items2.size)))) _
    rw [hs1, hs2]
    simpa using hR
  | succ k ih =>
    intro i hk hi s h
    obtain ⟨items, items2, n, n2, dd, dd2, sl, sl2, hl1, hb1, hs1, hs2, turn⟩ := hl _ _ h
    have hlt : i < items.size := by omega
    have hlt2 : i < items2.size := by omega
    have ht := turn hlt hlt2
    obtain ⟨hp, g, d, tk, os⟩ := s
    wp_walk using wpAny_loadPart' hl1, wpAny_loadPart' hb1
    have hi1 : items[((i : Nat) : Int).toNat]? = some items[i] := by simp [hlt]
    have hi2 : items2[((i : Nat) : Int).toNat]? = some items2[i] := by simp [hlt2]
    have hc : ((i : Int) + 1) = ((i + 1 : Nat) : Int) := by omega
    rw [hi1, hi2]
    refine wpAny_bind (wpAny_mono ht (fun r s2 h2 => ?_) fun _ _ x => x)
    cases r with
    | true =>
      have h2 : I (i + 1) s2 := h2
      have hrec := ih (i + 1) (by omega) (by omega) s2 h2
      obtain ⟨hp2, g2, d2, tk2, os2⟩ := s2
      wp_walk
      rw [hc]
      exact ⟨plainId_quiet plain_eq_loop _, codeAny_builtin entry_eq_loop (by
        rw [Around.under_plainId plain_eq_loop _]
        exact hrec)⟩
    | false =>
      obtain ⟨h2, it3, it4, n3, n4, dd3, dd4, sl3, sl4, hl3, hb3, hs3, hs4⟩ := (h2 : Fl s2 ∧ _)
      have hR := fal s2 h2
      have hlt3 : i < it3.size := by omega
      have hlt4 : i < it4.size := by omega
      have hi3 : it3[((i : Nat) : Int).toNat]? = some it3[i] := by simp [hlt3]
      have hi4 : it4[((i : Nat) : Int).toNat]? = some it4[i] := by simp [hlt4]
      obtain ⟨hp2, g2, d2, tk2, os2⟩ := s2
      wp_walk using wpAny_loadPart' hl3, wpAny_loadPart' hb3
      rw [hi3, hi4]
      wp_walk
      simpa using hR

theorem list_eqB (l b : Addr) (N : Nat) (I : Nat → Shared → Prop) (Fl : Shared → Prop) (hl : ListB prog w A (fun e s' => R (.error e) s') l b N I Fl)
    (fin : ∀ s, I N s → R (.ok (.ret (.bool true))) s) (fal : ∀ s, Fl s → R (.ok (.ret (.bool false))) s) {s : Shared} (h : I 0 s) :
    wpAny (model prog w) A.in1 (Builtin.«list.__eq__» ⟨[.ref l, .ref b], []⟩) (FinOf prog w A R) (fun e s' => R (.error e) s') s := by
  obtain ⟨items, items2, n, n2, dd, dd2, sl, sl2, hl1, hb1, hs1, hs2, _⟩ := hl _ _ h
  have hrec := eq_loopE (A := A) (R := R) l b N I Fl hl fin fal _ 0 rfl (Nat.zero_le _) s h
  obtain ⟨hp, g, d, tk, os⟩ := s
  have f3 := AutoSeq1.sub_list_list
  have hne : ¬ (items.size != items2.size) = true := by simp [hs1, hs2]
  wp_walk using wpAny_loadPart' hl1, wpAny_loadPart' hb1
  exact ⟨plainId_quiet plain_eq_loop _, codeAny_builtin entry_eq_loop (by
    rw [Around.under_plainId plain_eq_loop _]
    exact hrec)⟩
theorem list_eqL (l b : Addr) (items items2 : Array Value) (n n2 : Nat) (dd dd2 : Option Addr) (sl sl2 : Array (Option Value)) (hsz : items.size ≠ items2.size) {s : Shared} (hl1 : s.heap.get? l = some { cls := .type "list", dict := dd, data := .seq items n, slots := sl }) (hb1 : s.heap.get? b = some { cls := .type "list", dict := dd2, data := .seq items2 n2, slots := sl2 })
    (fal : R (.ok (.ret (.bool false))) s) :
    wpAny (model prog w) A.in1 (Builtin.«list.__eq__» ⟨[.ref l, .ref b], []⟩) (FinOf prog w A R) (fun e s' => R (.error e) s') s := by
  obtain ⟨hp, g, d, tk, os⟩ := s
  have f3 := AutoSeq1.sub_list_list
  have hne : (items.size != items2.size) = true := by simp [hsz]
  wp_walk using wpAny_loadPart' hl1, wpAny_loadPart' hb1
  exact fal

theorem tuple_eqB (l b : Addr) (items items2 : Array Value) (n n2 : Nat) (dd dd2 : Option Addr) (sl sl2 : Array (Option Value)) (I : Nat → Shared → Prop) (Fl : Shared → Prop)
    (turn : ∀ i (h1 : i < items.size) (h2 : i < items2.size) s, I i s → wpAny (model prog w) A.in1 (eqBool items[i] items2[i]) (fun r s' => if r then I (i + 1) s' else Fl s') (fun e s' => R (.error e) s') s)
    (fin : ∀ s, I (min items.size items2.size) s → R (.ok (.ret (.bool (items.size == items2.size)))) s) (fal : ∀ s, Fl s → R (.ok (.ret (.bool false))) s) {s : Shared} (hl1 : s.heap.get? l = some { cls := .type "tuple", dict := dd, data := .seq items n, slots := sl }) (hb1 : s.heap.get? b = some { cls := .type "tuple", dict := dd2, data := .seq items2 n2, slots := sl2 }) (h : I 0 s) :
    wpAny (model prog w) A.in1 (Builtin.«tuple.__eq__» ⟨[.ref l, .ref b], []⟩) (FinOf prog w A R) (fun e s' => R (.error e) s') s := by
  have f2 := AutoSeq1.sub_tuple_tuple
  have hZ : (items.toList.zip items2.toList).length = min items.size items2.size := by simp
  have h0 := h
  obtain ⟨hp, g, d, tk, os⟩ := s
  wp_walk using wpAny_loadPart' hl1, wpAny_loadPart' hb1, wpAny_forIn_list _ (fun rest b s' => (b.1 = none ∧ ∃ i, rest = (items.toList.zip items2.toList).drop i ∧ i ≤ min items.size items2.size ∧ I i s') ∨ (rest = [] ∧ b.1 = some (.done (.ret (.bool false))) ∧ Fl s')) _
  case turn =>
    rintro ⟨y, x⟩ rest b s' hyp
    rcases hyp with ⟨hb', i, hz, hi, hI⟩ | ⟨hz, _, _⟩
    · have hlt : i < (items.toList.zip items2.toList).length := by
        rcases Nat.lt_or_ge i (items.toList.zip items2.toList).length with h' | h'
        · exact h'
        · rw [List.drop_of_length_le h'] at hz; cases hz
      have h1 : i < items.size := by omega
      have h2 : i < items2.size := by omega
      rw [List.drop_eq_getElem_cons hlt] at hz
      injection hz with hyx hrest
      have hy : y = items[i] := by have := congrArg Prod.fst hyx; simpa using this
      have hx : x = items2[i] := by have := congrArg Prod.snd hyx; simpa using this
      subst hy hx
      refine wpAny_bind (wpAny_mono (turn i h1 h2 s' hI) (fun r s2 q2 => ?_) fun _ _ x => x)
      cases r with
      | true =>
        have q2 : I (i + 1) s2 := q2
        wp_walk
        exact .inl ⟨rfl, i + 1, hrest, by omega, q2⟩
      | false =>
        have q2 : Fl s2 := q2
        wp_walk
        exact fal s2 q2
    · cases hz
  case fin =>
    rintro ⟨b1, b2⟩ s' hyp
    rcases hyp with ⟨hb', i, hz, hi, hI⟩ | ⟨_, hb', hF⟩
    · simp only at hb'
      subst hb'
      have hge : min items.size items2.size ≤ i := by
        rcases Nat.lt_or_ge i (items.toList.zip items2.toList).length with h' | h'
        · rw [List.drop_eq_getElem_cons h'] at hz; cases hz
        · omega
      have hi' : i = min items.size items2.size := by omega
      have hR := fin s' (hi' ▸ hI)
      wp_walk
      simpa [Builtin.Tuple.tupleCompareSizes] using hR
    · simp only at hb'
      subst hb'
      have hR := fal s' hF
      wp_walk
      exact hR
  case h =>
    exact .inl ⟨rfl, 0, rfl, Nat.zero_le _, h0⟩

theorem eq_loopN (l b : Addr) (N : Nat) (I : Nat → Shared → Prop) (Fl : Shared → Prop) (hl : ListB prog w A (fun e s' => R (.error e) s') l b N I Fl)
    (fin : ∀ s, I N s → R (.ok (.ret (.bool false))) s) (fal : ∀ s, Fl s → R (.ok (.ret (.bool true))) s) (k : Nat) :
    ∀ i : Nat, N - i = k → i ≤ N → ∀ s, I i s →
      wpAny (model prog w) A.in1 (Builtin.«list.__eq__.loop» ⟨[.ref l, .ref b, rawInt i, rawInt 3], []⟩) (FinOf prog w A R) (fun e s' => R (.error e) s') s := by
  induction k with
  | zero =>
    intro i hk hi s h
    obtain ⟨items, items2, n, n2, dd, dd2, sl, sl2, hl1, hb1, hs1, hs2, _⟩ := hl _ _ h
    have hi' : i = N := by omega
    have hR := fin s (hi' ▸ h)
    obtain ⟨hp, g, d, tk, os⟩ := s
    wp_walk using wpAny_loadPart' hl1, wpAny_loadPart' hb1
    have hi1 : items[((i : Nat) : Int).toNat]? = none := by simp; omega
    have hi2 : items2[((i : Nat) : Int).toNat]? = none := by simp; omega
    rw [hi1, hi2]
    wp_walk using wpAny_loadPart' hl1, wpAny_loadPart' hb1
    show R (.ok (.ret (.bool (items.size != items2.size)))) _
    rw [hs1, hs2]
    simpa using hR
  | succ k ih =>
    intro i hk hi s h
    obtain ⟨items, items2, n, n2, dd, dd2, sl, sl2, hl1, hb1, hs1, hs2, turn⟩ := hl _ _ h
    have hlt : i < items.size := by omega
    have hlt2 : i < items2.size := by omega
    have ht := turn hlt hlt2
    obtain ⟨hp, g, d, tk, os⟩ := s
    wp_walk using wpAny_loadPart' hl1, wpAny_loadPart' hb1
    have hi1 : items[((i : Nat) : Int).toNat]? = some items[i] := by simp [hlt]
    have hi2 : items2[((i : Nat) : Int).toNat]? = some items2[i] := by simp [hlt2]
    have hc : ((i : Int) + 1) = ((i + 1 : Nat) : Int) := by omega
    rw [hi1, hi2]
    refine wpAny_bind (wpAny_mono ht (fun r s2 h2 => ?_) fun _ _ x => x)
    cases r with
    | true =>
      have h2 : I (i + 1) s2 := h2
      have hrec := ih (i + 1) (by omega) (by omega) s2 h2
      obtain ⟨hp2, g2, d2, tk2, os2⟩ := s2
      wp_walk
      rw [hc]
      exact ⟨plainId_quiet plain_eq_loop _, codeAny_builtin entry_eq_loop (by
        rw [Around.under_plainId plain_eq_loop _]
        exact hrec)⟩
    | false =>
      obtain ⟨h2, it3, it4, n3, n4, dd3, dd4, sl3, sl4, hl3, hb3, hs3, hs4⟩ := (h2 : Fl s2 ∧ _)
      have hR := fal s2 h2
      have hlt3 : i < it3.size := by omega
      have hlt4 : i < it4.size := by omega
      have hi3 : it3[((i : Nat) : Int).toNat]? = some it3[i] := by simp [hlt3]
      have hi4 : it4[((i : Nat) : Int).toNat]? = some it4[i] := by simp [hlt4]
      obtain ⟨hp2, g2, d2, tk2, os2⟩ := s2
      wp_walk using wpAny_loadPart' hl3, wpAny_loadPart' hb3
      rw [hi3, hi4]
      wp_walk
      simpa using hR

theorem list_neB (l b : Addr) (N : Nat) (I : Nat → Shared → Prop) (Fl : Shared → Prop) (hl : ListB prog w A (fun e s' => R (.error e) s') l b N I Fl)
    (fin : ∀ s, I N s → R (.ok (.ret (.bool false))) s) (fal : ∀ s, Fl s → R (.ok (.ret (.bool true))) s) {s : Shared} (h : I 0 s) :
    wpAny (model prog w) A.in1 (Builtin.«list.__ne__» ⟨[.ref l, .ref b], []⟩) (FinOf prog w A R) (fun e s' => R (.error e) s') s := by
  obtain ⟨items, items2, n, n2, dd, dd2, sl, sl2, hl1, hb1, hs1, hs2, _⟩ := hl _ _ h
  have hrec := eq_loopN (A := A) (R := R) l b N I Fl hl fin fal _ 0 rfl (Nat.zero_le _) s h
  obtain ⟨hp, g, d, tk, os⟩ := s
  have f3 := AutoSeq1.sub_list_list
  have hne : ¬ (items.size != items2.size) = true := by simp [hs1, hs2]
  wp_walk using wpAny_loadPart' hl1, wpAny_loadPart' hb1
  exact ⟨plainId_quiet plain_eq_loop _, codeAny_builtin entry_eq_loop (by
    rw [Around.under_plainId plain_eq_loop _]
    exact hrec)⟩
theorem list_neL (l b : Addr) (items items2 : Array Value) (n n2 : Nat) (dd dd2 : Option Addr) (sl sl2 : Array (Option Value)) (hsz : items.size ≠ items2.size) {s : Shared} (hl1 : s.heap.get? l = some { cls := .type "list", dict := dd, data := .seq items n, slots := sl }) (hb1 : s.heap.get? b = some { cls := .type "list", dict := dd2, data := .seq items2 n2, slots := sl2 })
    (fal : R (.ok (.ret (.bool true))) s) :
    wpAny (model prog w) A.in1 (Builtin.«list.__ne__» ⟨[.ref l, .ref b], []⟩) (FinOf prog w A R) (fun e s' => R (.error e) s') s := by
  obtain ⟨hp, g, d, tk, os⟩ := s
  have f3 := AutoSeq1.sub_list_list
  have hne : (items.size != items2.size) = true := by simp [hsz]
  wp_walk using wpAny_loadPart' hl1, wpAny_loadPart' hb1
  exact fal

theorem tuple_neB (l b : Addr) (items items2 : Array Value) (n n2 : Nat) (dd dd2 : Option Addr) (sl sl2 : Array (Option Value)) (I : Nat → Shared → Prop) (Fl : Shared → Prop)
    (turn : ∀ i (h1 : i < items.size) (h2 : i < items2.size) s, I i s → wpAny (model prog w) A.in1 (eqBool items[i] items2[i]) (fun r s' => if r then I (i + 1) s' else Fl s') (fun e s' => R (.error e) s') s)
    (fin : ∀ s, I (min items.size items2.size) s → R (.ok (.ret (.bool (items.size != items2.size)))) s) (fal : ∀ s, Fl s → R (.ok (.ret (.bool true))) s) {s : Shared} (hl1 : s.heap.get? l = some { cls := .type "tuple", dict := dd, data := .seq items n, slots := sl }) (hb1 : s.heap.get? b = some { cls := .type "tuple", dict := dd2, data := .seq items2 n2, slots := sl2 }) (h : I 0 s) :
    wpAny (model prog w) A.in1 (Builtin.«tuple.__ne__» ⟨[.ref l, .ref b], []⟩) (FinOf prog w A R) (fun e s' => R (.error e) s') s := by
  have f2 := AutoSeq1.sub_tuple_tuple
  have hZ : (items.toList.zip items2.toList).length = min items.size items2.size := by simp
  have h0 := h
  obtain ⟨hp, g, d, tk, os⟩ := s
  wp_walk using wpAny_loadPart' hl1, wpAny_loadPart' hb1, wpAny_forIn_list _ (fun rest b s' => (b.1 = none ∧ ∃ i, rest = (items.toList.zip items2.toList).drop i ∧ i ≤ min items.size items2.size ∧ I i s') ∨ (rest = [] ∧ b.1 = some (.done (.ret (.bool true))) ∧ Fl s')) _
  case turn =>
    rintro ⟨y, x⟩ rest b s' hyp
    rcases hyp with ⟨hb', i, hz, hi, hI⟩ | ⟨hz, _, _⟩
    · have hlt : i < (items.toList.zip items2.toList).length := by
        rcases Nat.lt_or_ge i (items.toList.zip items2.toList).length with h' | h'
        · exact h'
        · rw [List.drop_of_length_le h'] at hz; cases hz
      have h1 : i < items.size := by omega
      have h2 : i < items2.size := by omega
      rw [List.drop_eq_getElem_cons hlt] at hz
      injection hz with hyx hrest
      have hy : y = items[i] := by have := congrArg Prod.fst hyx; simpa using this
      have hx : x = items2[i] := by have := congrArg Prod.snd hyx; simpa using this
      subst hy hx
      refine wpAny_bind (wpAny_mono (turn i h1 h2 s' hI) (fun r s2 q2 => ?_) fun _ _ x => x)
      cases r with
      | true =>
        have q2 : I (i + 1) s2 := q2
        wp_walk
        exact .inl ⟨rfl, i + 1, hrest, by omega, q2⟩
      | false =>
        have q2 : Fl s2 := q2
        wp_walk
        exact fal s2 q2
    · cases hz
  case fin =>
    rintro ⟨b1, b2⟩ s' hyp
    rcases hyp with ⟨hb', i, hz, hi, hI⟩ | ⟨_, hb', hF⟩
    · simp only at hb'
      subst hb'
      have hge : min items.size items2.size ≤ i := by
        rcases Nat.lt_or_ge i (items.toList.zip items2.toList).length with h' | h'
        · rw [List.drop_eq_getElem_cons h'] at hz; cases hz
        · omega
      have hi' : i = min items.size items2.size := by omega
      have hR := fin s' (hi' ▸ hI)
      wp_walk
      simpa [Builtin.Tuple.tupleCompareSizes] using hR
    · simp only at hb'
      subst hb'
      have hR := fal s' hF
      wp_walk
      exact hR
  case h =>
    exact .inl ⟨rfl, 0, rfl, Nat.zero_le _, h0⟩
end
end GQ

namespace GQ
open PySem PySem.SeqAt PySem.Spec PyProof.Rows L2
open MeetsSeq MeetsSeq2 MeetsSeq3 SeqRoads2
section
variable {prog : Program} {w : World} {A : Around} {E : Value → Shared → Prop} {s : Shared}
theorem rc_listB {l b : Addr} {N : Nat} {Q : Value → Shared → Prop} (hu : A.units < cLine) (I : Nat → Shared → Prop) (Fl : Shared → Prop) (hl : ListB prog w A E l b N I Fl)
    (fin : ∀ s, I N s → Q (.bool true) s) (fal : ∀ s, Fl s → Q (.bool false) s) (h : I 0 s) : wpAny (model prog w) A (richCompare .Eq (.ref l) (.ref b)) Q E s := by
  obtain ⟨items, items2, n, n2, dd, dd2, sl, sl2, hl1, hb1, _, _, _⟩ := hl _ _ h
  refine wpAny_richCompare_same_room (op := .Eq) ⟨_, hl1, rfl⟩ ⟨_, hb1, rfl⟩ F.slot_list_eq (call_here F.slot_list_eq ⟨_, hl1, rfl⟩ F.entry_list_eq (F.args_list_eq_2 _ _) ?_) hu
  exact list_eqB (R := wants (fun v s' => v ≠ .notImplemented ∧ Q v s') E) l b N I Fl hl (fun s' q => ⟨(fun x => nomatch x), fin s' q⟩) (fun s' q => ⟨(fun x => nomatch x), fal s' q⟩) h
theorem rc_listNe {l b : Addr} {N : Nat} {Q : Value → Shared → Prop} (hu : A.units < cLine) (I : Nat → Shared → Prop) (Fl : Shared → Prop) (hl : ListB prog w A E l b N I Fl)
    (fin : ∀ s, I N s → Q (.bool false) s) (fal : ∀ s, Fl s → Q (.bool true) s) (h : I 0 s) : wpAny (model prog w) A (richCompare .NotEq (.ref l) (.ref b)) Q E s := by
  obtain ⟨items, items2, n, n2, dd, dd2, sl, sl2, hl1, hb1, _, _, _⟩ := hl _ _ h
  refine wpAny_richCompare_same_room (op := .NotEq) ⟨_, hl1, rfl⟩ ⟨_, hb1, rfl⟩ F.slot_list_ne (call_here F.slot_list_ne ⟨_, hl1, rfl⟩ F.entry_list_ne (F.args_list_ne_2 _ _) ?_) hu
  exact list_neB (R := wants (fun v s' => v ≠ .notImplemented ∧ Q v s') E) l b N I Fl hl (fun s' q => ⟨(fun x => nomatch x), fin s' q⟩) (fun s' q => ⟨(fun x => nomatch x), fal s' q⟩) h
theorem rc_listL {l b : Addr} {items items2 : Array Value} {n n2 : Nat} {dd dd2 : Option Addr} {sl sl2 : Array (Option Value)} {Q : Value → Shared → Prop} (hu : A.units < cLine) (hl1 : s.heap.get? l = some { cls := .type "list", dict := dd, data := .seq items n, slots := sl }) (hb1 : s.heap.get? b = some { cls := .type "list", dict := dd2, data := .seq items2 n2, slots := sl2 })
    (hsz : items.size ≠ items2.size) (h : Q (.bool false) s) : wpAny (model prog w) A (richCompare .Eq (.ref l) (.ref b)) Q E s := by
  refine wpAny_richCompare_same_room (op := .Eq) ⟨_, hl1, rfl⟩ ⟨_, hb1, rfl⟩ F.slot_list_eq (call_here F.slot_list_eq ⟨_, hl1, rfl⟩ F.entry_list_eq (F.args_list_eq_2 _ _) ?_) hu
  exact list_eqL (R := wants (fun v s' => v ≠ .notImplemented ∧ Q v s') E) l b items items2 n n2 dd dd2 sl sl2 hsz hl1 hb1 ⟨(fun x => nomatch x), h⟩
theorem rc_listLNe {l b : Addr} {items items2 : Array Value} {n n2 : Nat} {dd dd2 : Option Addr} {sl sl2 : Array (Option Value)} {Q : Value → Shared → Prop} (hu : A.units < cLine) (hl1 : s.heap.get? l = some { cls := .type "list", dict := dd, data := .seq items n, slots := sl }) (hb1 : s.heap.get? b = some { cls := .type "list", dict := dd2, data := .seq items2 n2, slots := sl2 })
    (hsz : items.size ≠ items2.size) (h : Q (.bool true) s) : wpAny (model prog w) A (richCompare .NotEq (.ref l) (.ref b)) Q E s := by
  refine wpAny_richCompare_same_room (op := .NotEq) ⟨_, hl1, rfl⟩ ⟨_, hb1, rfl⟩ F.slot_list_ne (call_here F.slot_list_ne ⟨_, hl1, rfl⟩ F.entry_list_ne (F.args_list_ne_2 _ _) ?_) hu
  exact list_neL (R := wants (fun v s' => v ≠ .notImplemented ∧ Q v s') E) l b items items2 n n2 dd dd2 sl sl2 hsz hl1 hb1 ⟨(fun x => nomatch x), h⟩
theorem rc_tupB {l b : Addr} {items items2 : Array Value} {Q : Value → Shared → Prop} (hu : A.units < cLine) (I : Nat → Shared → Prop) (Fl : Shared → Prop)
    (hl : s.heap.IsTuple l items) (hb : s.heap.IsTuple b items2)
    (turn : ∀ i (h1 : i < items.size) (h2 : i < items2.size) s, I i s → wpAny (model prog w) A.in1 (eqBool items[i] items2[i]) (fun r s' => if r then I (i + 1) s' else Fl s') E s)
    (fin : ∀ s, I (min items.size items2.size) s → Q (.bool (items.size == items2.size)) s) (fal : ∀ s, Fl s → Q (.bool false) s) (h : I 0 s) : wpAny (model prog w) A (richCompare .Eq (.ref l) (.ref b)) Q E s := by
  obtain ⟨⟨cls, dd, data, sl⟩, ho, hc, n, hd⟩ := id hl
  obtain ⟨⟨cls2, dd2, data2, sl2⟩, ho2, hc2, n2, hd2⟩ := id hb
  simp only at hc hd hc2 hd2
  subst hc hd hc2 hd2
  refine wpAny_richCompare_same_room (op := .Eq) ⟨_, ho, rfl⟩ ⟨_, ho2, rfl⟩ F.slot_tuple_eq (call_here F.slot_tuple_eq ⟨_, ho, rfl⟩ F.entry_tuple_eq (F.args_tuple_eq_2 _ _) ?_) hu
  exact tuple_eqB (R := wants (fun v s' => v ≠ .notImplemented ∧ Q v s') E) l b items items2 n n2 dd dd2 sl sl2 I Fl turn (fun s' q => ⟨(fun x => nomatch x), fin s' q⟩) (fun s' q => ⟨(fun x => nomatch x), fal s' q⟩) ho ho2 h
theorem rc_tupNe {l b : Addr} {items items2 : Array Value} {Q : Value → Shared → Prop} (hu : A.units < cLine) (I : Nat → Shared → Prop) (Fl : Shared → Prop)
    (hl : s.heap.IsTuple l items) (hb : s.heap.IsTuple b items2)
    (turn : ∀ i (h1 : i < items.size) (h2 : i < items2.size) s, I i s → wpAny (model prog w) A.in1 (eqBool items[i] items2[i]) (fun r s' => if r then I (i + 1) s' else Fl s') E s)
    (fin : ∀ s, I (min items.size items2.size) s → Q (.bool (items.size != items2.size)) s) (fal : ∀ s, Fl s → Q (.bool true) s) (h : I 0 s) : wpAny (model prog w) A (richCompare .NotEq (.ref l) (.ref b)) Q E s := by
  obtain ⟨⟨cls, dd, data, sl⟩, ho, hc, n, hd⟩ := id hl
  obtain ⟨⟨cls2, dd2, data2, sl2⟩, ho2, hc2, n2, hd2⟩ := id hb
  simp only at hc hd hc2 hd2
  subst hc hd hc2 hd2
  refine wpAny_richCompare_same_room (op := .NotEq) ⟨_, ho, rfl⟩ ⟨_, ho2, rfl⟩ F.slot_tuple_ne (call_here F.slot_tuple_ne ⟨_, ho, rfl⟩ F.entry_tuple_ne (F.args_tuple_ne_2 _ _) ?_) hu
  exact tuple_neB (R := wants (fun v s' => v ≠ .notImplemented ∧ Q v s') E) l b items items2 n n2 dd dd2 sl sl2 I Fl turn (fun s' q => ⟨(fun x => nomatch x), fin s' q⟩) (fun s' q => ⟨(fun x => nomatch x), fal s' q⟩) ho ho2 h
end
end GQ
namespace DL
open PySem PySem.Spec PyProof.Rows L2
variable [LamTab]
/-! ### == of lists and tuples with items of own classes -/
mutual
def solid : D → Bool
  | .non => true
  | .bl _ => true
  | .int _ => true
  | .str _ => true
  | .tup ds => solids ds
  | .lst ds => solids ds
  | .obj _ ds => solids ds
  | .loc _ => false
  | .val _ => false
  | .xob _ _ => false
  | .lam _ _ => false
  | .clo _ _ => false
def solids : List D → Bool
  | [] => true
  | d :: ds => solid d && solids ds
end
theorem relV_abs : ∀ {x : V} {u : Value}, RelV x u → absV u = some x
  | .non, _, h => by cases h; rfl
  | .bl _, _, h => by cases h; rfl
  | .int _, _, ⟨t, h⟩ => by cases h; rfl
  | .str _, _, ⟨t, h⟩ => by cases h; rfl
  | .byt _, _, ⟨t, h⟩ => by cases h; rfl
  | .flt _, _, ⟨t, h⟩ => by cases h; rfl
  | .ref _, _, h => by cases h; rfl
  | .ty _, _, h => by cases h; rfl
theorem relV_inj {x y : V} {u : Value} (h : RelV x u) (k : RelV y u) : x = y := Option.some.inj ((relV_abs h).symm.trans (relV_abs k))
theorem vals_inj : ∀ {xs ys : List V} {us : List Value}, Vals xs us → Vals ys us → xs = ys
  | _, _, _, .nil, .nil => rfl
  | _, _, _, .cons h r, .cons h' r' => by rw [relV_inj h h', vals_inj r r']
section
variable {X : Cx} {pins : List (Addr × Obj)} {σ : L2.St} {S : Wd} {m : Mu} {s : Shared}
theorem sqT_inj {H : Hp} (I : Inv X pins σ H s) {a : Addr} {xs ys : List V} (h : SqT X.K H a xs) (k : SqT X.K H a ys) : xs = ys := by
  obtain ⟨its, r, ⟨o, ho, hc, n, hd⟩, _⟩ := I.tuple h
  obtain ⟨its2, r2, ⟨o2, ho2, hc2, n2, hd2⟩, _⟩ := I.tuple k
  rw [ho] at ho2
  cases ho2
  rw [hd] at hd2
  injection hd2 with e1 e2
  have : its = its2 := by simpa using congrArg Array.toList e1
  subst this
  exact vals_inj r r2
theorem sqL_inj {H : Hp} (I : Inv X pins σ H s) {a : Addr} {xs ys : List V} (h : SqL X.K H a xs) (k : SqL X.K H a ys) : xs = ys := by
  obtain ⟨its, r, ⟨o, n, ho, hc, _, hd⟩, _⟩ := I.list h
  obtain ⟨its2, r2, ⟨o2, n2, ho2, hc2, _, hd2⟩, _⟩ := I.list k
  rw [ho] at ho2
  cases ho2
  rw [hd] at hd2
  injection hd2 with e1 e2
  have : its = its2 := by simpa using congrArg Array.toList e1
  subst this
  exact vals_inj r r2
theorem sq_no {H : Hp} (I : Inv X pins σ H s) {a : Addr} {xs ys : List V} (h : SqT X.K H a xs) (k : SqL X.K H a ys) : False := by
  obtain ⟨its, r, ⟨o, ho, hc, n, hd⟩, _⟩ := I.tuple h
  obtain ⟨its2, r2, ⟨o2, n2, ho2, hc2, _, hd2⟩, _⟩ := I.list k
  rw [ho] at ho2
  cases ho2
  rw [hc] at hc2
  injection hc2 with e
  exact absurd e (by decide)
theorem insT_no {H : Hp} (I : Inv X pins σ H s) {a C dx : Addr} {fs : List (Str × V)} {xs : List V} (h : SqT X.K H a xs) (k : H a = some (.ins C dx fs)) : False := by
  obtain ⟨its, r, ⟨o, ho, hc, n, hd⟩, _⟩ := I.tuple h
  obtain ⟨od, J⟩ := Inv.inst I k
  rw [J.at_] at ho
  cases ho
  cases hc
theorem insL_no {H : Hp} (I : Inv X pins σ H s) {a C dx : Addr} {fs : List (Str × V)} {xs : List V} (h : SqL X.K H a xs) (k : H a = some (.ins C dx fs)) : False := by
  obtain ⟨its, r, ⟨o, n, ho, hc, _, hd⟩, _⟩ := I.list h
  obtain ⟨od, J⟩ := Inv.inst I k
  rw [J.at_] at ho
  cases ho
  cases hc
mutual
theorem rep_inj (I : Inv X pins σ S.H s) (sa : Sta X.K S m) : ∀ (x : D) {y : D} {v : V}, solid x = true → solid y = true → Rep X.K S.i S.F x v → Rep X.K S.i S.F y v → x = y
  | .non, y, v, _, h, r, q => by cases r; cases q <;> first | rfl | simp [solid] at h
  | .bl b, y, v, _, h, r, q => by cases r; cases q <;> first | rfl | simp [solid] at h
  | .int b, y, v, _, h, r, q => by cases r; cases q <;> first | rfl | simp [solid] at h
  | .str b, y, v, _, h, r, q => by cases r; cases q <;> first | rfl | simp [solid] at h
  | .tup ds, y, v, g, h, r, q => by
    cases r with
    | tup h1 h2 =>
      cases q with
      | tup k1 k2 =>
        have e := sqT_inj I (SqT.ext' h1 sa.sub) (SqT.ext' k1 sa.sub)
        subst e
        rw [reps_inj I sa ds (by simpa [solid] using g) (by simpa [solid] using h) h2 k2]
      | lst k1 k2 => exact (sq_no I (SqT.ext' h1 sa.sub) (SqL.ext' k1 sa.sub)).elim
      | obj k1 k2 k3 => exact (insT_no I (SqT.ext' h1 sa.sub) (sa.sub _ _ k1)).elim
      | _ => simp [solid] at h
  | .lst ds, y, v, g, h, r, q => by
    cases r with
    | lst h1 h2 =>
      cases q with
      | lst k1 k2 =>
        have e := sqL_inj I (SqL.ext' h1 sa.sub) (SqL.ext' k1 sa.sub)
        subst e
        rw [reps_inj I sa ds (by simpa [solid] using g) (by simpa [solid] using h) h2 k2]
      | tup k1 k2 => exact (sq_no I (SqT.ext' k1 sa.sub) (SqL.ext' h1 sa.sub)).elim
      | obj k1 k2 k3 => exact (insL_no I (SqL.ext' h1 sa.sub) (sa.sub _ _ k1)).elim
      | _ => simp [solid] at h
  | .obj c ds, y, v, g, h, r, q => by
    cases r with
    | obj h1 h2 h3 =>
      cases q with
      | @obj c' ds' a' dx' vs' k1 k2 k3 =>
        rw [h1] at k1
        injection k1 with k1
        injection k1 with e1 e2 e3
        subst e3
        obtain ⟨a, ns⟩ := c
        obtain ⟨a', ns'⟩ := c'
        simp only at e1 h2 k2
        subst e1
        rw [← h2, ← k2, reps_inj I sa ds (by simpa [solid] using g) (by simpa [solid] using h) h3 k3]
      | tup k1 k2 => exact (insT_no I (SqT.ext' k1 sa.sub) (sa.sub _ _ h1)).elim
      | lst k1 k2 => exact (insL_no I (SqL.ext' k1 sa.sub) (sa.sub _ _ h1)).elim
      | _ => simp [solid] at h
  | .loc _, _, _, g, _, _, _ => by simp [solid] at g
  | .val _, _, _, g, _, _, _ => by simp [solid] at g
  | .xob _ _, _, _, g, _, _, _ => by simp [solid] at g
  | .lam _ _, _, _, g, _, _, _ => by simp [solid] at g
  | .clo _ _, _, _, g, _, _, _ => by simp [solid] at g
theorem reps_inj (I : Inv X pins σ S.H s) (sa : Sta X.K S m) : ∀ (xs : List D) {ys : List D} {vs : List V}, solids xs = true → solids ys = true → Reps X.K S.i S.F xs vs → Reps X.K S.i S.F ys vs → xs = ys
  | [], ys, vs, _, _, r, q => by cases r; cases q; rfl
  | x :: xs, ys, vs, g, h, r, q => by
    cases r with
    | cons h1 h2 =>
      cases q with
      | cons k1 k2 =>
        simp only [solids, Bool.and_eq_true] at g h
        rw [rep_inj I sa x g.1 h.1 h1 k1, reps_inj I sa xs g.2 h.2 h2 k2]
end
end

open Classical in
/-- a def's answer where it leaves the store as it is -/
noncomputable def pureB (r : Res D) (m : Mu) : Option Bool := match r with
  | .ok (.bl b) m1 => if m1 = m then some b else none
  | _ => none
def eqXs (f : D → D → Option Bool) : List D → List D → Option Bool
  | x :: xs, y :: ys => match f x y with
    | some true => eqXs f xs ys
    | some false => some false
    | none => none
  | _, _ => some true
open Classical in
/-- within a list or tuple: the same object is equal to itself -/
noncomputable def eqI (f : D → D → Option Bool) (x y : D) : Option Bool := if solid x = true ∧ solid y = true then (match f x y with
  | some b => if (x = y → b = true) then some b else none
  | none => none) else none
noncomputable def eqX (rows : List (Kl × DFn × List Tg)) (m : Mu) : Nat → D → D → Option Bool
  | 0, _, _ => none
  | n + 1, x, y => match insOf m x with
    | some (C, ns, _) => (match eqRow rows C ns, tagOf m y with
      | some (G, ts), some t => if t ∈ ts then pureB (G [x, y] m) m else none
      | _, _ => none)
    | none => match seqL m x, seqL m y with
      | some xs, some ys => if xs.length = ys.length then eqXs (eqI (eqX rows m n)) xs ys else some false
      | _, _ => match seqT x, seqT y with
        | some xs, some ys => (eqXs (eqI (eqX rows m n)) xs ys).map fun b => b && decide (xs.length = ys.length)
        | _, _ => match pyOf m x, pyOf m y with
          | some d, some e => if SeqAt.shaped d && SeqAt.shaped e then some (PyData.eqv d e) else none
          | _, _ => none
noncomputable def gEqX (neg : Bool) (rows : List (Kl × DFn × List Tg)) (n : Nat) : D2 := fun x y m => match eqX rows m n x y with
  | some b => .ok (.bl (neg ^^ b)) m
  | none => .stuck
section
variable {X : Cx} {k : Nat} {rows : List (Kl × DFn × List Tg)}
/-- the state of a comparison: further on, the same data -/
def At (X : Cx) (pins : List (Addr × Obj)) (σ : L2.St) (S : Wd) (m : Mu) (s : Shared) : Prop := ∃ T, Stp S T ∧ Sta X.K T m ∧ Inv X pins σ T.H s
theorem pureB_some {r : Res D} {m : Mu} {b : Bool} (h : pureB r m = some b) : r = .ok (.bl b) m := by
  unfold pureB at h
  split at h
  · rename_i b' m1
    split at h
    · rename_i e; cases h; rw [e]
    · cases h
  · cases h
theorem eqI_some {f : D → D → Option Bool} {x y : D} {b : Bool} (h : eqI f x y = some b) : solid x = true ∧ solid y = true ∧ f x y = some b ∧ (x = y → b = true) := by
  unfold eqI at h
  split at h
  · rename_i hs
    cases q : f x y with
    | none => rw [q] at h; cases h
    | some b' =>
      rw [q] at h
      dsimp only at h
      split at h
      · rename_i e; cases h; exact ⟨hs.1, hs.2, rfl, e⟩
      · cases h
  · cases h
def EqIt (X : Cx) (k : Nat) (f : Mu → D → D → Option Bool) : Prop := ∀ (A : Around) (pins : List (Addr × Obj)) (σ : L2.St) (S : Wd) (m : Mu) (x y : D) (vx vy : V) (u w : Value) (s : Shared) (b : Bool), Room k A → A.frames = X.A.frames → Sta X.K S m → Rep X.K S.i S.F x vx → Rep X.K S.i S.F y vy → Inv X pins σ S.H s → RelV vx u → RelV vy w →
  f m x y = some b → wpAny (model X.prog X.w) A (eqBool u w) (fun r s' => r = b ∧ At X pins σ S m s') X.xe s
def RcIt (X : Cx) (k : Nat) (neg : Bool) (f : Mu → D → D → Option Bool) : Prop := ∀ (A : Around) (pins : List (Addr × Obj)) (σ : L2.St) (S : Wd) (m : Mu) (x y : D) (vx vy : V) (u w : Value) (s : Shared) (b : Bool), Room k A → A.frames = X.A.frames → Sta X.K S m → Rep X.K S.i S.F x vx → Rep X.K S.i S.F y vy → Inv X pins σ S.H s → RelV vx u → RelV vy w →
  f m x y = some b → wpAny (model X.prog X.w) A (compareOp (if neg then .NotEq else .Eq) u w) (fun r s' => r = .bool (neg ^^ b) ∧ At X pins σ S m s') X.xe s
/-- what the walk over the items keeps -/
def LpI (X : Cx) (pins : List (Addr × Obj)) (σ : L2.St) (S : Wd) (m : Mu) (f : D → D → Option Bool) (xs ys : List D) (b : Bool) (i : Nat) (s : Shared) : Prop := At X pins σ S m s ∧ eqXs f (xs.drop i) (ys.drop i) = some b
theorem lp_turn {f : Mu → D → D → Option Bool} (hf : EqIt X k f) {A : Around} (hr : Room k A.in1) (hA : A.frames = X.A.frames) {pins : List (Addr × Obj)} {σ : L2.St} {S T : Wd} {m : Mu} {xs ys : List D} {vs us : List V} {its its2 : List Value} {b : Bool} {s : Shared}
    (st : Stp S T) (sa : Sta X.K T m) (I : Inv X pins σ T.H s) (r : Reps X.K T.i T.F xs vs) (q : Reps X.K T.i T.F ys us) (rv : Vals vs its) (qv : Vals us its2)
    (i : Nat) (h1 : i < its.toArray.size) (h2 : i < its2.toArray.size) (he : eqXs (f m) (xs.drop i) (ys.drop i) = some b) :
    wpAny (model X.prog X.w) A.in1 (eqBool its.toArray[i] its2.toArray[i]) (fun r s' => if r then LpI X pins σ S m (f m) xs ys b (i + 1) s' else b = false ∧ At X pins σ S m s') X.xe s := by
  have g1 : i < its.length := by simpa using h1
  have g2 : i < its2.length := by simpa using h2
  have k1 : i < vs.length := by rw [rv.length]; exact g1
  have k2 : i < us.length := by rw [qv.length]; exact g2
  have j1 : i < xs.length := by rw [r.len]; exact k1
  have j2 : i < ys.length := by rw [q.len]; exact k2
  obtain ⟨u, hu, ru⟩ := rv.get (List.getElem?_eq_getElem k1)
  obtain ⟨w, hw, rw'⟩ := qv.get (List.getElem?_eq_getElem k2)
  obtain ⟨v1, e1, rx⟩ := r.get (List.getElem?_eq_getElem j1)
  obtain ⟨v2, e2, ry⟩ := q.get (List.getElem?_eq_getElem j2)
  rw [List.getElem?_eq_getElem k1] at e1
  rw [List.getElem?_eq_getElem k2] at e2
  cases e1
  cases e2
  rw [List.drop_eq_getElem_cons j1, List.drop_eq_getElem_cons j2] at he
  unfold eqXs at he
  have c1 : its.toArray[i] = u := by
    rw [List.getElem?_eq_getElem g1] at hu
    simpa using Option.some.inj hu
  have c2 : its2.toArray[i] = w := by
    rw [List.getElem?_eq_getElem g2] at hw
    simpa using Option.some.inj hw
  rw [c1, c2]
  cases hb : f m xs[i] ys[i] with
  | none => rw [hb] at he; cases he
  | some b' =>
    rw [hb] at he
    refine wpAny_mono (hf A.in1 pins σ T m _ _ _ _ u w s b' hr hA sa rx ry I ru rw' hb) (fun r s' z => ?_) fun _ _ x => x
    obtain ⟨rfl, U, st2, sa2, I2⟩ := z
    cases r with
    | true => exact ⟨⟨U, st.trans st2, sa2, I2⟩, he⟩
    | false => exact ⟨(Option.some.inj he).symm, U, st.trans st2, sa2, I2⟩
theorem eqXs_nil_l {f : D → D → Option Bool} {ys : List D} : eqXs f [] ys = some true := by unfold eqXs; rfl
theorem eqXs_nil_r {f : D → D → Option Bool} {xs : List D} : eqXs f xs [] = some true := by cases xs <;> (unfold eqXs; rfl)
theorem lp_end {f : D → D → Option Bool} {xs ys : List D} {b : Bool} {i : Nat} (h : min xs.length ys.length ≤ i) (he : eqXs f (xs.drop i) (ys.drop i) = some b) : b = true := by
  by_cases hx : xs.length ≤ i
  · rw [List.drop_of_length_le hx, eqXs_nil_l] at he; exact (Option.some.inj he).symm
  · rw [List.drop_of_length_le (by omega : ys.length ≤ i), eqXs_nil_r] at he; exact (Option.some.inj he).symm
theorem eqBool_refW {prog : Program} {w : World} {A : Around} {E : Value → Shared → Prop} {s : Shared} {l : Addr} {b : Value} {Q : Bool → Shared → Prop} (hne : Value.ref l ≠ b) (h : wpAny (model prog w) A (richCompare .Eq (.ref l) b) (fun v s' => ∃ r, v = .bool r ∧ Q r s') E s) : wpAny (model prog w) A (eqBool (.ref l) b) Q E s := by
  unfold eqBool
  refine wpAny_holding ?_
  refine wpAny_ite_split (fun hab => absurd (eq_of_beq hab) hne) (fun _ => ?_)
  refine wpAny_bind (wpAny_mono h (fun v s' hv => ?_) fun _ _ x => x)
  obtain ⟨r, rfl, q⟩ := hv
  exact wpAny_truthy_bool q
theorem rc_obj (hrows : ∀ r ∈ rows, EqOk X.prog X.w X.K X.mg X.base k r) {A : Around} (hr : Room k A) (hA : A.frames = X.A.frames) {pins : List (Addr × Obj)} {σ : L2.St} {S : Wd} {m : Mu} {x y : D} {vx vy : V} {u w : Value} {s : Shared} {b : Bool} (sa : Sta X.K S m) (rx : Rep X.K S.i S.F x vx) (ry : Rep X.K S.i S.F y vy) (I : Inv X pins σ S.H s) (hu : RelV vx u) (hw : RelV vy w)
    {C : Addr} {ns : List Str} {ds : List D} (ei : insOf m x = some (C, ns, ds)) {G : DFn} {ts : List Tg} {t : Tg} (eG : eqRow rows C ns = some (G, ts)) (eT : tagOf m y = some t) (ht : t ∈ ts) (h : G [x, y] m = .ok (.bl b) m) :
    ∃ a, u = .ref a ∧ wpAny (model X.prog X.w) A (richCompare .Eq u w) (fun r s' => r = .bool b ∧ At X pins σ S m s') X.xe s := by
  obtain ⟨c, ok, rfl, rfl⟩ := eqRow_ok (P := EqOk X.prog X.w X.K X.mg X.base k) hrows eG
  obtain ⟨a, dx, vs, rfl, h1, h2, h3⟩ := insOf_ok sa rx ei
  obtain ⟨f, fd, ps, dds, G0, hf1, hf2, hk, hf, hb, e⟩ := ok.mt.ex
  have e : G = padF ps.length dds G0 := e
  subst e
  obtain rfl : u = Value.ref a := hu
  refine ⟨a, rfl, ?_⟩
  obtain ⟨od1, J1⟩ := Inv.inst I h1
  obtain ⟨mm, F⟩ := I.fr
  refine PySem.W.cmp_K (op := .Eq) hr.units0 F I.ok.mod.kin J1 (tag_looks I sa ry hw eT) (ok.nf t ht) hf1 hf2 (thn (run_fnA (us := [.ref a, w]) (Q := fun v H => v = .bl b ∧ ∃ T, T.H = H ∧ Stp S T ∧ Sta X.K T m) hf hr hb hA I sa (.cons rx (.cons ry .nil)) (.cons rfl (.cons hw .nil)) ?_) fun v s1 hq => ?_)
  · rw [h]
    intro v T st sa1 rv
    cases rv
    exact ⟨rfl, T, rfl, st, sa1⟩
  · obtain ⟨y', H', I', r, rfl, T, rfl, st, sa1⟩ := hq
    cases r
    exact ⟨rfl, T, st, sa1, I'⟩
theorem at_refl {pins : List (Addr × Obj)} {σ : L2.St} {S : Wd} {m : Mu} {s : Shared} (sa : Sta X.K S m) (I : Inv X pins σ S.H s) : At X pins σ S m s := ⟨S, Stp.refl S, sa, I⟩
/-- two lists -/
theorem rc_lists {f : Mu → D → D → Option Bool} (hf : EqIt X k f) {neg : Bool} {A : Around} (hr : Room (k + 1) A) (hA : A.frames = X.A.frames) {pins : List (Addr × Obj)} {σ : L2.St} {S : Wd} {m : Mu} {x y : D} {vx vy : V} {u w : Value} {s : Shared} {b : Bool} (sa : Sta X.K S m) (rx : Rep X.K S.i S.F x vx) (ry : Rep X.K S.i S.F y vy) (I : Inv X pins σ S.H s) (hu : RelV vx u) (hw : RelV vy w)
    {xs ys : List D} (ex : seqL m x = some xs) (ey : seqL m y = some ys) (h : (if xs.length = ys.length then eqXs (f m) xs ys else some false) = some b) :
    ∃ a c, u = .ref a ∧ w = .ref c ∧ wpAny (model X.prog X.w) A (richCompare (if neg then .NotEq else .Eq) u w) (fun r s' => r = .bool (neg ^^ b) ∧ At X pins σ S m s') X.xe s := by
  obtain ⟨a, vs, rfl, sx, rvs⟩ := seqL_ok sa rx ex
  obtain ⟨c, us, rfl, sy, rus⟩ := seqL_ok sa ry ey
  obtain rfl : u = Value.ref a := hu
  obtain rfl : w = Value.ref c := hw
  refine ⟨a, c, rfl, rfl, ?_⟩
  split at h
  · rename_i hl
    have LB : GQ.ListB X.prog X.w A X.xe a c xs.length (LpI X pins σ S m (f m) xs ys b) (fun s' => b = false ∧ At X pins σ S m s') := by
      rintro i s' ⟨⟨T, st, saT, IT⟩, he⟩
      obtain ⟨a', vs', e1, sx', rvs'⟩ := seqL_ok saT (rx.stp st) ex
      obtain ⟨c', us', e2, sy', rus'⟩ := seqL_ok saT (ry.stp st) ey
      cases e1
      cases e2
      obtain ⟨its, qv, ⟨⟨cl, dd, dt, sl⟩, n, ho, hc, hd, hdt⟩, _⟩ := IT.list sx'
      obtain ⟨its2, qu, ⟨⟨cl2, dd2, dt2, sl2⟩, n2, ho2, hc2, hd2, hdt2⟩, _⟩ := IT.list sy'
      simp only at hc hd hdt hc2 hd2 hdt2
      subst hc hdt hc2 hdt2
      have z1 : its.toArray.size = xs.length := by rw [List.size_toArray, ← qv.length, ← rvs'.len]
      have z2 : its2.toArray.size = xs.length := by rw [List.size_toArray, ← qu.length, ← rus'.len, hl]
      refine ⟨its.toArray, its2.toArray, n, n2, dd, dd2, sl, sl2, ho, ho2, z1, z2, fun h1 h2 => ?_⟩
      refine wpAny_mono (lp_turn hf hr.in1 hA st saT IT rvs' rus' qv qu i h1 h2 he) (fun r s2 z => ?_) fun _ _ x => x
      cases r with
      | true => exact z
      | false =>
        obtain ⟨rfl, U, st2, sa2, I2⟩ := (z : b = false ∧ At X pins σ S m s2)
        obtain ⟨a', vs2, e1, sx2, rvs2⟩ := seqL_ok sa2 (rx.stp st2) ex
        obtain ⟨c', us2, e2, sy2, rus2⟩ := seqL_ok sa2 (ry.stp st2) ey
        cases e1
        cases e2
        obtain ⟨its3, qv3, ⟨⟨cl, dd, dt, sl⟩, n, ho, hc, hd, hdt⟩, _⟩ := I2.list sx2
        obtain ⟨its4, qu4, ⟨⟨cl2, dd2, dt2, sl2⟩, n2, ho2, hc2, hd2, hdt2⟩, _⟩ := I2.list sy2
        simp only at hc hd hdt hc2 hd2 hdt2
        subst hc hdt hc2 hdt2
        exact ⟨⟨rfl, U, st2, sa2, I2⟩, its3.toArray, its4.toArray, n, n2, dd, dd2, sl, sl2, ho, ho2, by rw [List.size_toArray, ← qv3.length, ← rvs2.len], by rw [List.size_toArray, ← qu4.length, ← rus2.len, hl]⟩
    have h0 : LpI X pins σ S m (f m) xs ys b 0 s := ⟨at_refl sa I, by simpa using h⟩
    have fin : ∀ s', LpI X pins σ S m (f m) xs ys b xs.length s' → b = true ∧ At X pins σ S m s' := fun s' z => ⟨lp_end (by omega) z.2, z.1⟩
    cases neg with
    | false => exact GQ.rc_listB hr.units0 _ _ LB (fun s' z => by obtain ⟨rfl, q⟩ := fin s' z; exact ⟨rfl, q⟩) (fun s' z => by obtain ⟨rfl, q⟩ := z; exact ⟨rfl, q⟩) h0
    | true => exact GQ.rc_listNe hr.units0 _ _ LB (fun s' z => by obtain ⟨rfl, q⟩ := fin s' z; exact ⟨rfl, q⟩) (fun s' z => by obtain ⟨rfl, q⟩ := z; exact ⟨rfl, q⟩) h0
  · rename_i hl
    cases h
    obtain ⟨its, qv, ⟨⟨cl, dd, dt, sl⟩, n, ho, hc, hd, hdt⟩, _⟩ := I.list sx
    obtain ⟨its2, qu, ⟨⟨cl2, dd2, dt2, sl2⟩, n2, ho2, hc2, hd2, hdt2⟩, _⟩ := I.list sy
    simp only at hc hd hdt hc2 hd2 hdt2
    subst hc hdt hc2 hdt2
    have hsz : its.toArray.size ≠ its2.toArray.size := by rw [List.size_toArray, List.size_toArray, ← qv.length, ← rvs.len, ← qu.length, ← rus.len]; exact hl
    cases neg with
    | false => exact GQ.rc_listL hr.units0 ho ho2 hsz ⟨rfl, at_refl sa I⟩
    | true => exact GQ.rc_listLNe hr.units0 ho ho2 hsz ⟨rfl, at_refl sa I⟩
theorem rc_tups {f : Mu → D → D → Option Bool} (hf : EqIt X k f) {neg : Bool} {A : Around} (hr : Room (k + 1) A) (hA : A.frames = X.A.frames) {pins : List (Addr × Obj)} {σ : L2.St} {S : Wd} {m : Mu} {x y : D} {vx vy : V} {u w : Value} {s : Shared} {b : Bool} (sa : Sta X.K S m) (rx : Rep X.K S.i S.F x vx) (ry : Rep X.K S.i S.F y vy) (I : Inv X pins σ S.H s) (hu : RelV vx u) (hw : RelV vy w)
    {xs ys : List D} (ex : seqT x = some xs) (ey : seqT y = some ys) (h : (eqXs (f m) xs ys).map (fun b => b && decide (xs.length = ys.length)) = some b) :
    ∃ a c, u = .ref a ∧ w = .ref c ∧ wpAny (model X.prog X.w) A (richCompare (if neg then .NotEq else .Eq) u w) (fun r s' => r = .bool (neg ^^ b) ∧ At X pins σ S m s') X.xe s := by
  obtain ⟨a, vs, rfl, sx, rvs⟩ := seqT_ok sa rx ex
  obtain ⟨c, us, rfl, sy, rus⟩ := seqT_ok sa ry ey
  obtain rfl : u = Value.ref a := hu
  obtain rfl : w = Value.ref c := hw
  refine ⟨a, c, rfl, rfl, ?_⟩
  cases he : eqXs (f m) xs ys with
  | none => rw [he] at h; cases h
  | some b0 =>
    rw [he] at h
    have h : (b0 && decide (xs.length = ys.length)) = b := Option.some.inj h
    obtain ⟨its, qv, hT, _⟩ := I.tuple sx
    obtain ⟨its2, qu, hT2, _⟩ := I.tuple sy
    have z1 : its.toArray.size = xs.length := by rw [List.size_toArray, ← qv.length, ← rvs.len]
    have z2 : its2.toArray.size = ys.length := by rw [List.size_toArray, ← qu.length, ← rus.len]
    have turn : ∀ i (h1 : i < its.toArray.size) (h2 : i < its2.toArray.size) s', LpI X pins σ S m (f m) xs ys b0 i s' → wpAny (model X.prog X.w) A.in1 (eqBool its.toArray[i] its2.toArray[i]) (fun r s' => if r then LpI X pins σ S m (f m) xs ys b0 (i + 1) s' else b0 = false ∧ At X pins σ S m s') X.xe s' := by
      rintro i h1 h2 s' ⟨⟨T, st, saT, IT⟩, he'⟩
      exact lp_turn hf hr.in1 hA st saT IT (rvs.stp st) (rus.stp st) qv qu i h1 h2 he'
    have h0 : LpI X pins σ S m (f m) xs ys b0 0 s := ⟨at_refl sa I, by simpa using he⟩
    have fin : ∀ s', LpI X pins σ S m (f m) xs ys b0 (min its.toArray.size its2.toArray.size) s' → b0 = true ∧ At X pins σ S m s' := fun s' z => ⟨lp_end (by omega) z.2, z.1⟩
    have hsz : (its.toArray.size == its2.toArray.size) = decide (xs.length = ys.length) := by rw [z1, z2]; rfl
    have hszn : (its.toArray.size != its2.toArray.size) = !decide (xs.length = ys.length) := by rw [z1, z2]; rfl
    cases neg with
    | false => exact GQ.rc_tupB hr.units0 _ (fun s' => b0 = false ∧ At X pins σ S m s') hT hT2 turn (fun s' z => by obtain ⟨rfl, q⟩ := fin s' z; exact ⟨by rw [hsz, ← h]; simp, q⟩) (fun s' z => by obtain ⟨rfl, q⟩ := z; exact ⟨by rw [← h]; simp, q⟩) h0
    | true => exact GQ.rc_tupNe hr.units0 _ (fun s' => b0 = false ∧ At X pins σ S m s') hT hT2 turn (fun s' z => by obtain ⟨rfl, q⟩ := fin s' z; exact ⟨by rw [hszn, ← h]; simp, q⟩) (fun s' z => by obtain ⟨rfl, q⟩ := z; exact ⟨by rw [← h]; simp, q⟩) h0
theorem eqIt_X (hrows : ∀ r ∈ rows, EqOk X.prog X.w X.K X.mg X.base k r) : ∀ n : Nat, EqIt X (k + n) (fun m => eqI (eqX rows m n))
  | 0 => by
    intro A pins σ S m x y vx vy u w s b hr hA sa rx ry I hu hw h
    obtain ⟨_, _, h, _⟩ := eqI_some h
    unfold eqX at h; cases h
  | n + 1 => by
    have ih := eqIt_X hrows n
    intro A pins σ S m x y vx vy u w s b hr hA sa rx ry I hu hw h
    obtain ⟨s1, s2, h, hxy⟩ := eqI_some h
    have same : ∀ a, u = .ref a → w = .ref a → b = true := fun a e1 e2 => by
      subst e1; subst e2
      have := relV_inj hu hw
      subst this
      exact hxy (rep_inj I sa x s1 s2 rx ry)
    have done : ∀ a, u = .ref a → wpAny (model X.prog X.w) A (richCompare .Eq u w) (fun r s' => r = .bool b ∧ At X pins σ S m s') X.xe s → wpAny (model X.prog X.w) A (eqBool u w) (fun r s' => r = b ∧ At X pins σ S m s') X.xe s := fun a e hh => by
      subst e
      by_cases hab : Value.ref a = w
      · subst hab
        have := same a rfl rfl
        subst this
        exact SeqAt.EqAt.same (A := A) (s := s) (.ref a) X.prog X.w X.xe _ ⟨rfl, at_refl sa I⟩
      · exact eqBool_refW hab (wpAny_mono hh (fun r s' z => ⟨b, z.1, rfl, z.2⟩) fun _ _ x => x)
    unfold eqX at h
    split at h
    · rename_i C ns ds ei
      split at h
      · rename_i G ts t eG eT
        split at h
        · rename_i ht
          obtain ⟨a, e, q⟩ := rc_obj hrows (hr.mono (by omega)) hA sa rx ry I hu hw ei eG eT ht (pureB_some h)
          exact done a e q
        · cases h
      · cases h
    · split at h
      · rename_i xs ys ex ey
        obtain ⟨a, c, e1, e2, q⟩ := rc_lists (neg := false) ih hr hA sa rx ry I hu hw ex ey h
        exact done a e1 (wpAny_mono q (fun r s' z => ⟨by rw [z.1, Bool.false_xor], z.2⟩) fun _ _ x => x)
      · split at h
        · rename_i xs ys ex ey
          obtain ⟨a, c, e1, e2, q⟩ := rc_tups (neg := false) ih hr hA sa rx ry I hu hw ex ey h
          exact done a e1 (wpAny_mono q (fun r s' z => ⟨by rw [z.1, Bool.false_xor], z.2⟩) fun _ _ x => x)
        · split at h
          · rename_i d e e1 e2
            split at h
            · rename_i hs
              obtain ⟨h1, h2⟩ := Bool.and_eq_true_iff.mp hs
              cases h
              obtain ⟨as, r1⟩ := Dp.reads I d vx u (pyOf_ok sa rx e1) hu
              obtain ⟨bs, r2⟩ := Dp.reads I e vy w (pyOf_ok sa ry e2) hw
              exact SeqAt.eqAt_reads d e A s u w as bs r1 r2 (SeqAt.canLay_of_shaped h1) (SeqAt.canLay_of_shaped h2) (SeqAt.room_of_shaped h1 hr.units) X.prog X.w X.xe _ ⟨rfl, at_refl sa I⟩
            · cases h
          · cases h
theorem od_eqX (hrows : ∀ r ∈ rows, EqOk X.prog X.w X.K X.mg X.base k r) (n : Nat) (hr : Room (k + n) X.A) : OD X (compareOp .Eq) (gEqX false rows n) := by
  intro pins s σ S m x y vx vy u w Q sa rx ry I hu hw p
  unfold gEqX at p
  split at p
  · rename_i b hb
    have fin : wpAny (model X.prog X.w) X.A (richCompare .Eq u w) (fun r s' => r = .bool b ∧ At X pins σ S m s') X.xe s → wpAny (model X.prog X.w) X.A (compareOp .Eq u w) (EP X pins σ Q) X.xe s := fun z => by
      refine wpAny_mono z (fun r s' q => ?_) fun _ _ x => x
      obtain ⟨rfl, T, st, sa1, I1⟩ := q
      rw [Bool.false_xor] at p
      exact ⟨.bl b, T.H, I1, rfl, Post.ok p st sa1 (.bl b)⟩
    cases n with
    | zero => unfold eqX at hb; cases hb
    | succ n =>
      have ih := eqIt_X hrows n
      unfold eqX at hb
      split at hb
      · rename_i C ns ds ei
        split at hb
        · rename_i G ts t eG eT
          split at hb
          · rename_i ht
            obtain ⟨a, e, q⟩ := rc_obj hrows (hr.mono (by omega)) rfl sa rx ry I hu hw ei eG eT ht (pureB_some hb)
            exact fin q
          · cases hb
        · cases hb
      · split at hb
        · rename_i xs ys ex ey
          obtain ⟨a, c, e1, e2, q⟩ := rc_lists (neg := false) ih hr rfl sa rx ry I hu hw ex ey hb
          exact fin (wpAny_mono q (fun r s' z => ⟨by rw [z.1, Bool.false_xor], z.2⟩) fun _ _ x => x)
        · split at hb
          · rename_i xs ys ex ey
            obtain ⟨a, c, e1, e2, q⟩ := rc_tups (neg := false) ih hr rfl sa rx ry I hu hw ex ey hb
            exact fin (wpAny_mono q (fun r s' z => ⟨by rw [z.1, Bool.false_xor], z.2⟩) fun _ _ x => x)
          · split at hb
            · rename_i d e e1 e2
              split at hb
              · rename_i hs
                obtain ⟨h1, h2⟩ := Bool.and_eq_true_iff.mp hs
                cases hb
                obtain ⟨as, r1⟩ := Dp.reads I d vx u (pyOf_ok sa rx e1) hu
                obtain ⟨bs, r2⟩ := Dp.reads I e vy w (pyOf_ok sa ry e2) hw
                exact fin (SeqAt.compareEq_shaped r1 r2 h1 h2 hr.units ⟨rfl, at_refl sa I⟩)
              · cases hb
            · cases hb
  · exact p.elim
/-- !=, of lists, tuples and plain data -/
noncomputable def gNeX (rows : List (Kl × DFn × List Tg)) (n : Nat) : D2 := fun x y m => match insOf m x with
  | some _ => .stuck
  | none => gEqX true rows n x y m
theorem od_neX (hrows : ∀ r ∈ rows, EqOk X.prog X.w X.K X.mg X.base k r) (n : Nat) (hr : Room (k + n) X.A) : OD X (compareOp .NotEq) (gNeX rows n) := by
  intro pins s σ S m x y vx vy u w Q sa rx ry I hu hw p
  unfold gNeX at p
  split at p
  · exact p.elim
  rename_i hins
  unfold gEqX at p
  split at p
  · rename_i b hb
    have fin : wpAny (model X.prog X.w) X.A (richCompare .NotEq u w) (fun r s' => r = .bool (true ^^ b) ∧ At X pins σ S m s') X.xe s → wpAny (model X.prog X.w) X.A (compareOp .NotEq u w) (EP X pins σ Q) X.xe s := fun z => by
      refine wpAny_mono z (fun r s' q => ?_) fun _ _ x => x
      obtain ⟨rfl, T, st, sa1, I1⟩ := q
      exact ⟨.bl (true ^^ b), T.H, I1, rfl, Post.ok p st sa1 (.bl _)⟩
    cases n with
    | zero => unfold eqX at hb; cases hb
    | succ n =>
      have ih := eqIt_X hrows n
      unfold eqX at hb
      rw [hins] at hb
      dsimp only at hb
      split at hb
      · rename_i xs ys ex ey
        obtain ⟨a, c, e1, e2, q⟩ := rc_lists (neg := true) ih hr rfl sa rx ry I hu hw ex ey hb
        exact fin q
      · split at hb
        · rename_i xs ys ex ey
          obtain ⟨a, c, e1, e2, q⟩ := rc_tups (neg := true) ih hr rfl sa rx ry I hu hw ex ey hb
          exact fin q
        · split at hb
          · rename_i d e e1 e2
            split at hb
            · rename_i hs
              obtain ⟨h1, h2⟩ := Bool.and_eq_true_iff.mp hs
              cases hb
              obtain ⟨as, r1⟩ := Dp.reads I d vx u (pyOf_ok sa rx e1) hu
              obtain ⟨bs, r2⟩ := Dp.reads I e vy w (pyOf_ok sa ry e2) hw
              exact fin (SeqAt.compareNe_shaped r1 r2 h1 h2 hr.units ⟨by rw [Bool.true_xor], at_refl sa I⟩)
            · cases hb
          · cases hb
  · exact p.elim
end
end DL
namespace DL
open PySem PySem.Spec L2
variable [LamTab]
/-! ### equations -/
section
variable {rows : List (Kl × DFn × List Tg)} {m : Mu} {n : Nat}
theorem eqX_lst (xs ys : List D) : eqX rows m (n + 1) (.lst xs) (.lst ys) = if xs.length = ys.length then eqXs (eqI (eqX rows m n)) xs ys else some false := by unfold eqX; rfl
theorem eqX_tup (xs ys : List D) : eqX rows m (n + 1) (.tup xs) (.tup ys) = (eqXs (eqI (eqX rows m n)) xs ys).map fun b => b && decide (xs.length = ys.length) := by rw [eqX.eq_def]; rfl
theorem eqX_obj (c : Kl) (ds : List D) (y : D) : eqX rows m (n + 1) (.obj c ds) y = (match eqRow rows c.a c.ns, tagOf m y with
      | some (G, ts), some t => if t ∈ ts then pureB (G [.obj c ds, y] m) m else none
      | _, _ => none) := by rw [eqX.eq_def]; rfl
theorem eqX_int (i j : Int) : eqX rows m (n + 1) (.int i) (.int j) = some (decide (i = j)) := by
  rw [eqX.eq_def]
  simp only [insOf, seqL, seqT, pyOf, thaw1, toPy]
  rw [if_pos (by rfl)]
  rfl
@[simp] theorem pureB_ok (b : Bool) (m : Mu) : pureB (.ok (.bl b) m) m = some b := by simp [pureB]
theorem eqXs_map {α : Type} [DecidableEq α] {F : α → D} {f : D → D → Option Bool} : ∀ {as bs : List α}, (∀ a ∈ as, ∀ b ∈ bs, f (F a) (F b) = some (decide (a = b))) → as.length = bs.length → eqXs f (as.map F) (bs.map F) = some (decide (as = bs))
  | [], [], _, _ => rfl
  | [], _ :: _, _, h => by simp at h
  | _ :: _, [], _, h => by simp at h
  | a :: as, b :: bs, h, hl => by
    have ih := eqXs_map (as := as) (bs := bs) (f := f) (F := F) (fun x hx y hy => h x (by simp [hx]) y (by simp [hy])) (by simpa using hl)
    simp only [List.map_cons, eqXs, h a (by simp) b (by simp)]
    by_cases e : a = b
    · simp [e, ih]
    · simp [e]
theorem eqI_map {α : Type} [DecidableEq α] {F : α → D} {f : D → D → Option Bool} {a b : α} (hi : F a = F b → a = b) (h1 : solid (F a) = true) (h2 : solid (F b) = true) (h : f (F a) (F b) = some (decide (a = b))) : eqI f (F a) (F b) = some (decide (a = b)) := by
  unfold eqI
  rw [if_pos ⟨h1, h2⟩, h]
  dsimp only
  rw [if_pos (fun e => by simpa using hi e)]
theorem eqI_of {f : D → D → Option Bool} {x y : D} {b : Bool} (h1 : solid x = true) (h2 : solid y = true) (h : f x y = some b) (hi : x = y → b = true) : eqI f x y = some b := by
  unfold eqI
  rw [if_pos ⟨h1, h2⟩, h]
  dsimp only
  rw [if_pos hi]
theorem eqX_lmap {α : Type} [DecidableEq α] {F : α → D} {as bs : List α} (hi : ∀ a b, F a = F b → a = b) (hs : ∀ a, solid (F a) = true) (h : ∀ a ∈ as, ∀ b ∈ bs, eqX rows m n (F a) (F b) = some (decide (a = b))) :
    eqX rows m (n + 1) (.lst (as.map F)) (.lst (bs.map F)) = some (decide (as = bs)) := by
  rw [eqX_lst]
  by_cases hl : as.length = bs.length
  · rw [if_pos (by simpa using hl), eqXs_map (fun a ha b hb => eqI_map (hi a b) (hs a) (hs b) (h a ha b hb)) hl]
  · rw [if_neg (by simpa using hl)]
    have : ¬ as = bs := fun e => hl (by rw [e])
    simp [this]
theorem gEqX_of {neg : Bool} {x y : D} {b : Bool} (h : eqX rows m n x y = some b) : gEqX neg rows n x y m = .ok (.bl (neg ^^ b)) m := by unfold gEqX; rw [h]
theorem gNeX_of {x y : D} {b : Bool} (hx : insOf m x = none) (h : eqX rows m n x y = some b) : gNeX rows n x y m = .ok (.bl (!b)) m := by unfold gNeX; rw [hx]; dsimp only; rw [gEqX_of h, Bool.true_xor]
end
end DL

namespace DL
open PySem PySem.Spec PyProof.Rows L2
variable [LamTab]
section
variable {X : Cx} {k : Nat}
/-! ### len of own classes -/
def dLenO (rows : List (Kl × DFn)) : DFn := fun ds m => match ds with
  | [x] => match insOf m x with
    | some (C, ns, _) => match methAt rows C ns with
      | some G => (G [x] m).bind fun r m1 => match r with
        | .int n => if 0 ≤ n ∧ n < 2 ^ 63 then .ok (.int n) m1 else .stuck
        | _ => .stuck
      | none => .stuck
    | none => .stuck
  | _ => .stuck
theorem oc_lenO {rows : List (Kl × DFn)} (hrows : ∀ r ∈ rows, MRow X.prog X.w X.K X.mg X.base k "__len__" r.1 r.2) (hr : Room (k + 1) X.A) : OC X (.builtin "len") (dLenO rows) := by
  intro pins s σ S m ds xs us Q sa r rv I p
  match ds, xs, us, r, rv with
  | [x], [vx], [u], .cons rx .nil, .cons hu .nil =>
    unfold dLenO at p
    dsimp only at p
    split at p
    · rename_i C ns ds ei
      split at p
      · rename_i G eG
        obtain ⟨c, ok, rfl, rfl⟩ := methAt_ok (P := MRow X.prog X.w X.K X.mg X.base k "__len__") hrows eG
        obtain ⟨a, dx, vs, rfl, h1, h2, h3⟩ := insOf_ok sa rx ei
        obtain ⟨f, fd, ps, dds, G0, hf1, hf2, hk, hf, hb, rfl⟩ := ok.ex
        obtain rfl : u = Value.ref a := hu
        obtain ⟨od1, J1⟩ := Inv.inst I h1
        obtain ⟨mm, F⟩ := I.fr
        refine PySem.W.len_K F I.ok.mod.kin J1 hf1 hf2 (thn (run_fnA (us := [.ref a]) (Q := fun v H => ∃ n, v = .int n ∧ (0 ≤ n ∧ n < 2 ^ 63) ∧ Q (.int n) H) hf hr.in1 hb rfl I sa (.cons rx .nil) (.cons rfl .nil) (Post.bindI p fun r m2 v U st2 sa2 rv q2 => ?_)) fun v s1 h => ?_)
        · cases rv with
          | int n =>
            dsimp only at q2
            split at q2
            · rename_i hn; exact ⟨n, rfl, hn, Post.ok q2 (Stp.refl U) sa2 (.int n)⟩
            · exact (show False from q2).elim
          | _ => exact (show False from q2).elim
        · obtain ⟨y, H, I', r, n, rfl, hn, q⟩ := h
          obtain ⟨t, rfl⟩ := r
          exact ⟨hn, ⟨.int n, H, I'.tok _, ⟨_, rfl⟩, q⟩⟩
      · exact (show False from p).elim
    · exact (show False from p).elim
  | [], _, _, _, _ => exact p.elim
  | _ :: _ :: _, _, _, _, _ => exact p.elim
/-! ### tuple(xs) -/
def gTuple : DFn := fun ds m => match ds with
  | [d] => match seqL m d with
    | some es => .ok (.tup es) m
    | none => match d with
      | .tup es => .ok (.tup es) m
      | _ => .stuck
  | _ => .stuck
theorem oc_tuple : OC X (.type "tuple") gTuple := by
  intro pins s σ S m ds xs us Q sa r rv I p
  unfold gTuple at p
  split at p
  · rename_i d
    cases r with
    | cons r rr =>
      cases rr
      cases rv with
      | cons hu hr =>
        cases hr
        rename_i v u
        split at p
        · rename_i es e
          obtain ⟨a, ys, rfl, h1, h2⟩ := seqL_ok sa r e
          refine L2.rl_tuple pins s σ S.H _ u Q I hu (.inl ⟨a, ys, rfl, h1, fun l hl => ?_⟩)
          have st := Stp.new sa (o := .tup ys) hl
          exact p (.ref l) (S.new l (.tup ys)) st (sa.new hl) (.tup (.inl (.inl upd_same)) (h2.stp st))
        · split at p
          · rename_i es _
            obtain ⟨a, ys, rfl, h1, h2⟩ := seqT_ok sa r (ds := es) rfl
            exact L2.rl_tuple pins s σ S.H _ u Q I hu (.inr ⟨a, ys, rfl, h1, Post.ok p (Stp.refl S) sa r⟩)
          · exact p.elim
  · exact p.elim
end
/-- an item of an argument list; the star test is a row of its own -/
theorem pda_c {X : Cx} {a : Expr} {es : List Expr} {ta : DE} {t : DA} (ha : PDE X a ta) (hr : PDA X es t) (hs : isStar a = false := by rfl) : PDA X (a :: es) (dCons ta t) := pda_cons ha hr (se_cons _ _ _ hs)
end DL

namespace DL
open PySem PySem.Spec PyProof.Rows L2
variable [LamTab]
/-! ### comprehensions of two sources -/
theorem resB_assoc {α β γ : Type} (r : Res α) (f : α → Mu → Res β) (g : β → Mu → Res γ) : (r.bind f).bind g = r.bind fun a m => (f a m).bind g := by cases r <;> rfl
def dLc1 (n : Nat) (g : DG) (c : DT) (b : DE) (e : En) : List D → Mu → Res Unit
  | [], m => .ok () m
  | d :: ds, m => match g d e with
    | none => .stuck
    | some e1 => match c e1 m with
      | .ok true m1 => match b e1 m1 with
        | .ok x m2 => match m2[n]? with
          | some (.lst acc) => if acc.length < sizeLine then dLc1 n g c b e ds (m2.set n (.lst (acc ++ [x]))) else .stuck
          | _ => .stuck
        | _ => .stuck
      | .ok false m1 => dLc1 n g c b e ds m1
      | _ => .stuck
def dLc2 (n : Nat) (g : DG) (c : DT) (t1 : DA) (g1 : DG) (c1 : DT) (b : DE) (vs1 : List Nat) (e : En) : List D → Mu → Res Unit
  | [], m => .ok () m
  | d :: ds, m => match g d e with
    | none => .stuck
    | some e1 => match c e1 m with
      | .ok true m1 => match t1 e1 m1 with
        | .ok ds1 m2 => (dLc1 n g1 c1 b (wipeE e1 vs1) ds1 m2).bind fun _ m3 => dLc2 n g c t1 g1 c1 b vs1 e ds m3
        | _ => .stuck
      | .ok false m1 => dLc2 n g c t1 g1 c1 b vs1 e ds m1
      | _ => .stuck
/-- [elt for tg in iter if .. for tg1 in iter1 if ..]: the list stands in the store from the start -/
def dComp2 (t : DA) (g : DG) (c : DT) (t1 : DA) (g1 : DG) (c1 : DT) (b : DE) (own vs1 : List Nat) : DE := fun e m =>
  (t e m).bind fun ds m1 => (dLc2 m1.length g c t1 g1 c1 b vs1 (wipeE e own) ds (m1 ++ [.lst []])).bind fun _ m2 => .ok (.loc m1.length) m2
@[simp ↓] theorem dComp2_ap (t : DA) (g : DG) (c : DT) (t1 : DA) (g1 : DG) (c1 : DT) (b : DE) (own vs1 : List Nat) (e : En) (m : Mu) : dComp2 t g c t1 g1 c1 b own vs1 e m =
  (t e m).bind fun ds m1 => (dLc2 m1.length g c t1 g1 c1 b vs1 (wipeE e own) ds (m1 ++ [.lst []])).bind fun _ m2 => .ok (.loc m1.length) m2 := rfl
abbrev bI (X : Cx) (scope : Scope) (tg iter : Expr) : TI := fun σ H R => ∀ s0 H0 C cl fp, WI (Bk X scope s0 H0 C cl fp) tg iter σ H R
section
variable {X : Cx} {elt tg iter tg1 iter1 : Expr} {ifs ifs1 : List Expr} {scope : Scope} {own : List (Str × Nat)} {vs1 : List Nat} {pos spos : Pos} {t t1 : DA} {g g1 : DG} {c c1 : DT} {b : DE} {sl sl1 : List Nat}
theorem lc2_go {σ : L2.St} {S : Wd} {r : En} {m : Mu} {Q : VK} (hi : PDI X tg iter t)
    (hg : ∀ s H C cl fp, PDG (Bk X scope s H C cl fp) tg g sl) (ht : ∀ s H C cl fp, PDTs (Bk X scope s H C cl fp) ifs c)
    (hi1 : ∀ s H C cl fp, PDI (Bk X scope s H C cl fp) tg1 iter1 t1)
    (hg1 : ∀ s H C cl fp, PDG (Bk X scope s H C cl fp) tg1 g1 sl1) (ht1 : ∀ s H C cl fp, PDTs (Bk X scope s H C cl fp) ifs1 c1)
    (he : ∀ s H C cl fp, PDE (Bk X scope s H C cl fp) elt b)
    (hsl : ∀ i ∈ sl, i ∈ own.map (·.2)) (hsl1 : ∀ i ∈ sl1, i ∈ vs1)
    (sa : Sta X.K S m) (re : RelE X.K S r σ) (p : PostD X.K S (dComp2 t g c t1 g1 c1 b (own.map (·.2)) vs1 r m) Q (fun c d H => Fly X c d σ H)) :
    tLc2 (WI X tg iter) (bG X scope tg) (bT X scope ifs) (bI X scope tg1 iter1) (bG X scope tg1) (bT X scope ifs1) (bE X scope elt) (own.map (·.2)) vs1 σ S.H Q := by
  refine hi S r m σ _ sa re ?_
  unfold dComp2 at p
  cases q : t r m with
  | stuck => rw [q] at p; exact p
  | exc C fs m1 => rw [q] at p; exact p
  | ok ds m1 =>
    rw [q] at p
    intro J T st sa1 hJ Dd hD
    have pT : PostD X.K T ((dLc2 m1.length g c t1 g1 c1 b vs1 (wipeE r (own.map (·.2))) ds (m1 ++ [.lst []])).bind fun _ m2 => .ok (.loc m1.length) m2) Q (fun c d H => Fly X c d σ H) := Post.step st p
    have reW : RelE X.K T (wipeE r (own.map (·.2))) (wipe σ (own.map (·.2))) := (re.stp st).wipe _
    have stN : Stp T (T.tok Dd (.lst [])) := Stp.tok sa1 hD
    have saN : Sta X.K (T.tok Dd (.lst [])) (m1 ++ [.lst []]) := Sta.tok sa1 hD ⟨[], upd_same, .nil⟩
    have iN : (T.tok Dd (.lst [])).i[m1.length]? = some Dd := by
      show (T.i ++ [Dd])[m1.length]? = some Dd
      rw [← sa1.len, List.getElem?_append_right (Nat.le_refl _), Nat.sub_self]; rfl
    generalize m1.length = n0 at *
    refine ⟨fun i n H' => n = ds.length - i ∧ i ≤ ds.length ∧ ∃ (U : Wd) (m' : Mu), U.H = H' ∧ Stp (T.tok Dd (.lst [])) U ∧ Sta X.K U m' ∧
        PostD X.K T ((dLc2 n0 g c t1 g1 c1 b vs1 (wipeE r (own.map (·.2))) (ds.drop i) m').bind fun _ m2 => .ok (.loc n0) m2) Q (fun c d H => Fly X c d σ H),
      ⟨ds.length, by simp, Nat.zero_le _, T.tok Dd (.lst []), _, rfl, Stp.refl _, saN, pT⟩, ?_⟩
    rintro i n H' ⟨rfl, hi', U, m', rfl, stU, saU, pU⟩
    have stTU := stN.trans stU
    by_cases hlt : i < ds.length
    · refine .inr ⟨((hJ U m' i stTU saU).1 _ (List.getElem?_eq_getElem hlt)).1, fun H2 => i + 1 ≤ ds.length ∧ ∃ (U : Wd) (m' : Mu), U.H = H2 ∧ Stp (T.tok Dd (.lst [])) U ∧ Sta X.K U m' ∧
        PostD X.K T ((dLc2 n0 g c t1 g1 c1 b vs1 (wipeE r (own.map (·.2))) (ds.drop (i + 1)) m').bind fun _ m2 => .ok (.loc n0) m2) Q (fun c d H => Fly X c d σ H),
        fun H2 h2 => ⟨ds.length - (i + 1), by omega, rfl, h2.1, h2.2⟩, fun x H2 hy => ?_⟩
      obtain ⟨Y, rfl, stY, saY, rdY⟩ := ((hJ U m' i stTU saU).1 _ (List.getElem?_eq_getElem hlt)).2 x H2 hy
      rw [List.drop_eq_getElem_cons hlt] at pU
      unfold dLc2 at pU
      have stN2 := stU.trans stY
      have stT := stN.trans stN2
      cases qg : g ds[i] (wipeE r (own.map (·.2))) with
      | none => rw [qg] at pU; exact (show False from pU).elim
      | some e1 =>
        rw [qg] at pU
        dsimp only at pU
        intro s0 H0 C0 cl0 fp0
        refine hg s0 H0 C0 cl0 fp0 Y (wipeE r (own.map (·.2))) m' (wipe σ (own.map (·.2))) ds[i] x e1 _ saY (reW.stp stT) rdY qg ?_
        intro σ1 re1 bs
        refine ⟨?_, ?_⟩
        · rw [bs _ hsl]
          exact wipe_wipe _ _
        intro s0 H0 C0 cl0 fp0
        cases qc : c e1 m' with
        | stuck => rw [qc] at pU; exact (show False from pU).elim
        | exc C fs m2 => rw [qc] at pU; exact (show False from pU).elim
        | ok k m2 =>
          rw [qc] at pU
          refine ht s0 H0 C0 cl0 fp0 Y e1 m' σ1 _ saY re1 ?_
          rw [qc]
          intro k' Z stZ saZ hk
          cases (show k = k' from hk)
          have stNZ := stN2.trans stZ
          cases k with
          | false => exact iteF ⟨hlt, Z, m2, rfl, stNZ, saZ, pU⟩
          | true =>
            refine iteT ?_
            intro s0 H0 C0 cl0 fp0
            dsimp only at pU
            cases qt : t1 e1 m2 with
            | stuck => rw [qt] at pU; exact (show False from pU).elim
            | exc C fs m3 => rw [qt] at pU; exact (show False from pU).elim
            | ok ds1 m3 =>
              rw [qt] at pU
              dsimp only at pU
              refine hi1 s0 H0 C0 cl0 fp0 Z e1 m2 σ1 _ saZ (re1.stp stZ) ?_
              rw [qt]
              intro J1 T1 st1 sa2 hJ1
              have stN1 := stNZ.trans st1
              have reV : RelE X.K T1 (wipeE e1 vs1) (wipe σ1 vs1) := ((re1.stp stZ).stp st1).wipe _
              rw [resB_assoc] at pU
              refine ⟨fun j k H' => k = ds1.length - j ∧ j ≤ ds1.length ∧ ∃ (U : Wd) (m' : Mu), U.H = H' ∧ Stp T1 U ∧ Sta X.K U m' ∧
                  PostD X.K T ((dLc1 n0 g1 c1 b (wipeE e1 vs1) (ds1.drop j) m').bind fun _ m4 => (dLc2 n0 g c t1 g1 c1 b vs1 (wipeE r (own.map (·.2))) (ds.drop (i + 1)) m4).bind fun _ m2 => .ok (.loc n0) m2) Q (fun c d H => Fly X c d σ H),
                ⟨ds1.length, by simp, Nat.zero_le _, T1, m3, rfl, Stp.refl T1, sa2, pU⟩, ?_⟩
              rintro j k H'' ⟨rfl, hj', V0, n', rfl, stV0, saV0, pV⟩
              by_cases hlt1 : j < ds1.length
              · refine .inr ⟨((hJ1 V0 n' j stV0 saV0).1 _ (List.getElem?_eq_getElem hlt1)).1, fun H2 => j + 1 ≤ ds1.length ∧ ∃ (U : Wd) (m' : Mu), U.H = H2 ∧ Stp T1 U ∧ Sta X.K U m' ∧
                  PostD X.K T ((dLc1 n0 g1 c1 b (wipeE e1 vs1) (ds1.drop (j + 1)) m').bind fun _ m4 => (dLc2 n0 g c t1 g1 c1 b vs1 (wipeE r (own.map (·.2))) (ds.drop (i + 1)) m4).bind fun _ m2 => .ok (.loc n0) m2) Q (fun c d H => Fly X c d σ H),
                  fun H2 h2 => ⟨ds1.length - (j + 1), by omega, rfl, h2.1, h2.2⟩, fun x1 H3 hy1 => ?_⟩
                obtain ⟨Y1, rfl, stY1, saY1, rdY1⟩ := ((hJ1 V0 n' j stV0 saV0).1 _ (List.getElem?_eq_getElem hlt1)).2 x1 H3 hy1
                rw [List.drop_eq_getElem_cons hlt1] at pV
                unfold dLc1 at pV
                have stTY := stV0.trans stY1
                cases qg1 : g1 ds1[j] (wipeE e1 vs1) with
                | none => rw [qg1] at pV; exact (show False from pV).elim
                | some e2 =>
                  rw [qg1] at pV
                  dsimp only at pV
                  intro s0 H0 C0 cl0 fp0
                  refine hg1 s0 H0 C0 cl0 fp0 Y1 (wipeE e1 vs1) n' (wipe σ1 vs1) ds1[j] x1 e2 _ saY1 (reV.stp stTY) rdY1 qg1 ?_
                  intro σ2 re2 bs2
                  refine ⟨?_, ?_⟩
                  · rw [bs2 _ hsl1]
                    exact wipe_wipe _ _
                  intro s0 H0 C0 cl0 fp0
                  cases qc1 : c1 e2 n' with
                  | stuck => rw [qc1] at pV; exact (show False from pV).elim
                  | exc C fs m2 => rw [qc1] at pV; exact (show False from pV).elim
                  | ok k1 n2 =>
                    rw [qc1] at pV
                    refine ht1 s0 H0 C0 cl0 fp0 Y1 e2 n' σ2 _ saY1 re2 ?_
                    rw [qc1]
                    intro k2 Z1 stZ1 saZ1 hk1
                    cases (show k1 = k2 from hk1)
                    cases k1 with
                    | false => exact iteF ⟨hlt1, Z1, n2, rfl, stTY.trans stZ1, saZ1, pV⟩
                    | true =>
                      refine iteT ?_
                      intro s0 H0 C0 cl0 fp0
                      dsimp only at pV
                      cases qb : b e2 n2 with
                      | stuck => rw [qb] at pV; exact (show False from pV).elim
                      | exc C fs m3 => rw [qb] at pV; exact (show False from pV).elim
                      | ok dx n3 =>
                        rw [qb] at pV
                        refine he s0 H0 C0 cl0 fp0 Z1 e2 n2 σ2 _ saZ1 (re2.stp stZ1) ?_
                        rw [qb]
                        intro vx V1 stV saV rx
                        dsimp only at pV
                        have stW := ((stTY.trans stZ1).trans stV)
                        have iV : V1.i[n0]? = some Dd := pre_get (stN1.trans stW).pre iN
                        split at pV
                        · rename_i acc hacc
                          obtain ⟨av, w1, w2⟩ := saV.ok n0 Dd _ iV hacc
                          split at pV
                          · rename_i hlen
                            obtain ⟨sp, ss⟩ := saV.put (o := .lst (av ++ [vx])) iV (q := .lst (acc ++ [dx])) ⟨av ++ [vx], upd_same, w2.append (.cons rx .nil)⟩
                            exact ⟨av, w1, by rw [← w2.len]; exact hlen, hlt1, V1.put Dd (.lst (av ++ [vx])), _, rfl, stW.trans sp, ss, pV⟩
                          · exact (show False from pV).elim
                        · exact (show False from pV).elim
              · have ej : j = ds1.length := by omega
                subst ej
                rw [List.drop_length] at pV
                exact .inl ⟨(hJ1 V0 n' _ stV0 saV0).2 (Nat.le_refl _), hlt, V0, n', rfl, stN1.trans stV0, saV0, pV⟩
    · have e : i = ds.length := by omega
      subst e
      rw [List.drop_length] at pU
      refine .inl ⟨(hJ U m' _ stTU saU).2 (Nat.le_refl _), ?_⟩
      have pU : PostD X.K T (Res.ok (D.loc n0) m') Q (fun c d H => Fly X c d σ H) := pU
      exact pU (.ref Dd) U stTU saU (.loc (pre_get stU.pre iN))
abbrev mxBI (X : Cx) (scope : Scope) (tg iter : Expr) : ∀ s H C cl fp, PI (Bk X scope s H C cl fp) tg iter (bI X scope tg iter) := fun s H C cl fp => ⟨fun pins s1 σ H1 R I h => h s H C cl fp pins s1 I⟩
theorem pd_lc2 (hi : PDI X tg iter t) (hN : X.N.Nodup) (ok : BlkOk X.N X.env.scope scope own)
    (hg : ∀ s H C cl fp, PDG (Bk X scope s H C cl fp) tg g sl) (ht : ∀ s H C cl fp, PDTs (Bk X scope s H C cl fp) ifs c)
    (hi1 : ∀ s H C cl fp, PDI (Bk X scope s H C cl fp) tg1 iter1 t1)
    (hg1 : ∀ s H C cl fp, PDG (Bk X scope s H C cl fp) tg1 g1 sl1) (ht1 : ∀ s H C cl fp, PDTs (Bk X scope s H C cl fp) ifs1 c1)
    (he : ∀ s H C cl fp, PDE (Bk X scope s H C cl fp) elt b)
    (hc : X.calm = true) (hv : ∀ i ∈ vs1, i ∈ own.map (·.2) := by decide) (hsl : ∀ i ∈ sl, i ∈ own.map (·.2) := by decide) (hsl1 : ∀ i ∈ sl1, i ∈ vs1 := by decide)
    (hs : ∀ x, foldedSetIterable iter X.env x = pure x := by intro _; rfl) (hs1 : ∀ env x, foldedSetIterable iter1 env x = pure x := by intro _ _; rfl) :
    PDE X (.ListComp elt [⟨tg, iter, ifs, 0⟩, ⟨tg1, iter1, ifs1, 0⟩] scope pos) (dComp2 t g c t1 g1 c1 b (own.map (·.2)) vs1) :=
  pd_of (pe_lc2 hc hN (mxI X tg iter) ok hv (mxBG X scope tg) (mxBT X scope ifs) (mxBI X scope tg1 iter1) (mxBG X scope tg1) (mxBT X scope ifs1) (mxBE X scope elt) hs hs1)
    fun S r m σ Q sa re p => lc2_go hi hg ht hi1 hg1 ht1 he hsl hsl1 sa re p
theorem pds_setLc2 {i : Nat} {y : Str} {py : Pos} (hi : PDI X tg iter t) (hN : X.N.Nodup) (ok : BlkOk X.N X.env.scope scope own)
    (hg : ∀ s H C cl fp, PDG (Bk X scope s H C cl fp) tg g sl) (ht : ∀ s H C cl fp, PDTs (Bk X scope s H C cl fp) ifs c)
    (hi1 : ∀ s H C cl fp, PDI (Bk X scope s H C cl fp) tg1 iter1 t1)
    (hg1 : ∀ s H C cl fp, PDG (Bk X scope s H C cl fp) tg1 g1 sl1) (ht1 : ∀ s H C cl fp, PDTs (Bk X scope s H C cl fp) ifs1 c1)
    (he : ∀ s H C cl fp, PDE (Bk X scope s H C cl fp) elt b)
    (hc : X.calm = true) (hsw : swapsWith (.ListComp elt [⟨tg, iter, ifs, 0⟩, ⟨tg1, iter1, ifs1, 0⟩] scope pos) (some (.Name y py)) spos.line X.env = pure true) (hv : ∀ i ∈ vs1, i ∈ own.map (·.2) := by decide) (hsl : ∀ i ∈ sl, i ∈ own.map (·.2) := by decide) (hsl1 : ∀ i ∈ sl1, i ∈ vs1 := by decide)
    (hy : X.N[i]? = some y := by rfl) (hyl : X.env.scope.names.lookup y = some .local := by rfl) (hs : ∀ x, foldedSetIterable iter X.env x = pure x := by intro _; rfl) (hs1 : ∀ env x, foldedSetIterable iter1 env x = pure x := by intro _ _; rfl) :
    PDS X (.Assign [.Name y py] (.ListComp elt [⟨tg, iter, ifs, 0⟩, ⟨tg1, iter1, ifs1, 0⟩] scope pos) spos) (dSet i (dComp2 t g c t1 g1 c1 b (own.map (·.2)) vs1)) := by
  refine ps_of (ps_setLc2 hc hN hy hyl hsw (mxI X tg iter) ok hv (mxBG X scope tg) (mxBT X scope ifs) (mxBI X scope tg1 iter1) (mxBG X scope tg1) (mxBT X scope ifs1) (mxBE X scope elt) hs hs1) fun S r m σ N sa re p => ?_
  exact lc2_go hi hg ht hi1 hg1 ht1 he hsl hsl1 sa re (PDE.stm re p fun d m1 v T st sa1 rd q => q _ T (Stp.refl T) sa1 ((re.stp st).set i rd))
end
end DL

namespace DL
open PySem PySem.Spec PyProof.Rows L2
variable [LamTab]
section
variable {X : Cx} {a b c e o tg : Expr} {es : List Expr} {ta tb tc to te u : DE} {t : DA} {pos p apos : Pos} {k : Nat}
/-! ### what is never reached; one reading or another -/
theorem pd_stuckE : PDE X a (fun _ _ => .stuck) := fun S r m σ Q sa re p => p.elim
theorem pdt_stuckE : PDT X a (fun _ _ => .stuck) := fun S r m σ Q sa re p => p.elim
theorem pdi_stuckI : PDI X tg a (fun _ _ => .stuck) := fun S r m σ Q sa re p => p.elim
def orE (t u : DE) : DE := fun e m => match t e m with
  | .stuck => u e m
  | r => r
theorem pd_orE (h : PDE X a ta) (h2 : PDE X a u) : PDE X a (orE ta u) := by
  intro S r m σ Q sa re p
  unfold orE at p
  split at p
  · exact h2 S r m σ Q sa re p
  · exact h S r m σ Q sa re p
def orA (t u : DA) : DA := fun e m => match t e m with
  | .stuck => u e m
  | r => r
theorem pdi_orA {t u : DA} (h : PDI X tg a t) (h2 : PDI X tg a u) : PDI X tg a (orA t u) := by
  intro S r m σ Q sa re p
  unfold orA at p
  split at p
  · exact h2 S r m σ Q sa re p
  · exact h S r m σ Q sa re p
def orS (t u : DS) : DS := fun e m => match t e m with
  | .stuck => u e m
  | r => r
theorem pds_orS {st : Stmt} {t u : DS} (h : PDS X st t) (h2 : PDS X st u) : PDS X st (orS t u) := by
  intro S r m σ N sa re p
  unfold orS at p
  split at p
  · exact h2 S r m σ N sa re p
  · exact h S r m σ N sa re p
@[simp ↓] theorem orE_ap (t u : DE) (e : En) (m : Mu) : orE t u e m = match t e m with
  | .stuck => u e m
  | r => r := rfl
@[simp ↓] theorem orA_ap (t u : DA) (e : En) (m : Mu) : orA t u e m = match t e m with
  | .stuck => u e m
  | r => r := rfl
@[simp ↓] theorem orS_ap (t u : DS) (e : En) (m : Mu) : orS t u e m = match t e m with
  | .stuck => u e m
  | r => r := rfl
end
end DL

namespace DL
open PySem PySem.Spec PyProof.Rows L2
variable [LamTab]
section
variable {X : Cx} {a b c e o tg : Expr} {es : List Expr} {ta tb tc to te u : DE} {t : DA} {pos p apos cpos : Pos} {k : Nat}
theorem Reps.reverse {K : PySem.W.Frag} {ι : List Addr} {F : Hp} {ds : List D} {vs : List V} (r : Reps K ι F ds vs) : Reps K ι F ds.reverse vs.reverse := by
  match r with
  | .nil => exact .nil
  | .cons h r' => rw [List.reverse_cons, List.reverse_cons]; exact (Reps.reverse r').append (.cons h .nil)
/-! ### xs[::-1] -/
def dRev (t : DE) : DE := fun e m => (t e m).bind fun d m1 => match seqL m1 d with
  | some ds => .ok (.lst ds.reverse) m1
  | none => .stuck
@[simp ↓] theorem dRev_ap (t : DE) (e : En) (m : Mu) : dRev t e m = (t e m).bind fun d m1 => match seqL m1 d with
  | some ds => .ok (.lst ds.reverse) m1
  | none => .stuck := rfl
theorem pd_rev {k : Nat} {p1 p2 p3 : Pos} (ha : PDE X a ta) : PDE X (.Subscript a (.Slice none none (some (.UnaryOp .USub (.Constant (.int 1) k p1) p2)) p3) pos) (dRev ta) := by
  refine pd_of (pe_revL (mxE X a)) fun S r m σ Q sa re p => ?_
  refine ha S r m σ _ sa re (Post.bindI p fun d m1 v T st sa1 rd q => ?_)
  split at q
  · rename_i ds e1
    obtain ⟨ad, xs, rfl, h1, r1⟩ := seqL_ok sa1 rd e1
    refine ⟨ad, xs, rfl, h1, fun p' hp => ?_⟩
    have st1 := Stp.new sa1 (o := .lst xs.reverse) hp
    exact q (.ref p') (T.new p' (.lst xs.reverse)) st1 (sa1.new hp) (.lst (.inl (.inl upd_same)) ((r1.reverse).stp st1))
  · exact q.elim
/-! ### methods of lists and texts that change nothing -/
/-- what a method's answer must bear -/
def BmOk (K : PySem.W.Frag) (f : D → List D → Mu → Res D) (rr : V → List V → Hp → VK → Prop) : Prop :=
  ∀ (S : Wd) (m : Mu) (d : D) (ds : List D) (v : V) (vs : List V) (Q : VK) (W : XK), Sta K S m → Rep K S.i S.F d v → Reps K S.i S.F ds vs → PostD K S (f d ds m) Q W → rr v vs S.H Q
/-- o.name(..), o a list -/
def dBmL (f : D → List D → Mu → Res D) (to : DE) (t : DA) : DE := fun e m => (to e m).bind fun o m1 => match seqL m1 o with
  | some _ => (t e m1).bind fun ds m2 => f o ds m2
  | none => .stuck
@[simp ↓] theorem dBmL_ap (f : D → List D → Mu → Res D) (to : DE) (t : DA) (e : En) (m : Mu) : dBmL f to t e m = (to e m).bind fun o m1 => match seqL m1 o with
  | some _ => (t e m1).bind fun ds m2 => f o ds m2
  | none => .stuck := rfl
theorem pd_bmL {f : D → List D → Mu → Res D} {rr : V → List V → Hp → VK → Prop} {name : Str} {id : String} (slot : Slot "list" name id) (hty : typeOf (.builtin id) = pure (.type "method_descriptor")) (hr : MtR X id rr) (hm : BmOk X.K f rr) (ho : PDE X o to) (ha : PDA X (e :: es) t)
    (hbase : attributeBase o name X.env (eval o X.env) = eval o X.env := by rfl)
    (hfew : ((backTo cpos (starEach (e :: es) X.env)).all (fun x => !x.1) && (backToKw cpos (keywordEach [] X.env)).all (fun x => x.1.isSome)
      && decide ((e :: es).length + ([] : List Keyword).length + (if ([] : List Keyword).isEmpty then 0 else 1) < 30)) = true := by rfl)
    (hline : (apos.endLine == cpos.line) = true := by rfl) (hs : starEach (e :: es) X.env = (false, eval e X.env) :: starEach es X.env := by exact se_cons _ _ _ rfl) (hplain : (backTo cpos (starEach es X.env)).any (·.1) = false := by rfl) :
    PDE X (.Call (.Attribute o name apos) (e :: es) [] cpos) (dBmL f to t) := by
  refine pd_of (pe_bm PySem.F.plainAttrs_list slot hty hr (mxE X o) (mxA X _) hbase hfew hline hs hplain) fun S r m σ Q sa re p => ?_
  refine ho S r m σ _ sa re (Post.bindI p fun od m1 v T st sa1 rd q => ?_)
  split at q
  · rename_i ds e1
    obtain ⟨ad, xs, rfl, h1, r1⟩ := seqL_ok sa1 rd e1
    refine ⟨.inl ⟨rfl, xs, h1⟩, ?_⟩
    refine ha T r m1 σ _ sa1 (re.stp st) (Post.bindI q fun ds m2 us U st2 sa2 rds q2 => ?_)
    exact hm U m2 od ds (.ref ad) us Q _ sa2 (rd.stp st2) rds q2
  · exact q.elim
def findV (y : V) : List V → Option Nat
  | [] => none
  | x :: xs => if eqV x y then some 0 else (findV y xs).map (· + 1)
theorem findV_ok {y : V} : ∀ {xs : List V} {j : Nat}, findV y xs = some j → (∃ z, xs[j]? = some z ∧ eqV z y = true) ∧ ∀ (i : Nat) (z : V), i < j → xs[i]? = some z → eqV z y = false
  | [], _, h => by cases h
  | x :: xs, j, h => by
    unfold findV at h
    split at h
    · rename_i hx
      cases h
      exact ⟨⟨x, rfl, hx⟩, fun i z hi => by omega⟩
    · rename_i hx
      cases q : findV y xs with
      | none => rw [q] at h; cases h
      | some k =>
        rw [q] at h
        cases h
        obtain ⟨h1, h2⟩ := findV_ok q
        refine ⟨h1, fun i z hi hz => ?_⟩
        cases i with
        | zero => simp at hz; subst hz; simpa using hx
        | succ i => exact h2 i z (Nat.lt_of_succ_lt_succ hi) (by simpa using hz)
/-- xs.index(y), plain values -/
def fIndex : D → List D → Mu → Res D := fun d ds m => match ds with
  | [y] => match toV y, (seqL m d).bind toVs with
    | some v, some vs => match findV v vs with
      | some j => .ok (.int j) m
      | none => .stuck
    | _, _ => .stuck
  | _ => .stuck
theorem toVs_flat {ds : List D} {vs : List V} {K : PySem.W.Frag} {i : List Addr} {F : Hp} {xs : List V} (r : Reps K i F ds xs) (h : toVs ds = some vs) : xs = vs ∧ vs.all flatV = true := toVs_ok r h
theorem ok_index {K : PySem.W.Frag} : BmOk K fIndex (rIndex K) := by
  intro S m d ds v vs Q W sa rd rds p
  unfold fIndex at p
  split at p
  · rename_i y
    obtain ⟨vy, rfl, ry⟩ := reps1 rds
    split at p
    · rename_i v1 vs1 e1 e2
      cases q : seqL m d with
      | none => rw [q] at e2; cases e2
      | some es =>
        rw [q] at e2
        obtain ⟨ad, xs, rfl, h1, r1⟩ := seqL_ok sa rd q
        obtain ⟨rfl, fl⟩ := toVs_ok r1 (show toVs es = some vs1 from e2)
        obtain ⟨rfl, fy⟩ := toV_ok ry e1
        split at p
        · rename_i j hj
          obtain ⟨⟨z, z1, z2⟩, z3⟩ := findV_ok hj
          exact ⟨ad, _, _, j, z, rfl, rfl, h1, fy, fl, z1, z2, z3, Post.ok p (Stp.refl S) sa (.int _)⟩
        · exact p.elim
    · exact p.elim
  · exact p.elim
theorem pd_index (ho : PDE X o to) (ha : PDA X [e] t) (hbase : attributeBase o "index" X.env (eval o X.env) = eval o X.env := by rfl)
    (hfew : ((backTo cpos (starEach [e] X.env)).all (fun x => !x.1) && (backToKw cpos (keywordEach [] X.env)).all (fun x => x.1.isSome)
      && decide ([e].length + ([] : List Keyword).length + (if ([] : List Keyword).isEmpty then 0 else 1) < 30)) = true := by rfl)
    (hline : (apos.endLine == cpos.line) = true := by rfl) (hs : starEach [e] X.env = (false, eval e X.env) :: starEach [] X.env := by rfl) (hplain : (backTo cpos (starEach [] X.env)).any (·.1) = false := by rfl) :
    PDE X (.Call (.Attribute o "index" apos) [e] [] cpos) (dBmL fIndex to t) := pd_bmL PySem.F.slot_list_index PySem.F.type_list_index mt_index ok_index ho ha hbase hfew hline hs hplain
/-! ### [..] * int -/
def dLstRep (t : DA) (tb : DE) : DE := fun e m => (dLst t e m).bind fun x m1 => (tb e m1).bind fun d m2 => match x, d with
  | .lst ds, .int k => if 0 ≤ k ∧ k < 2 ^ 62 ∧ ds.length * k.toNat ≤ sizeLine then .ok (.lst (List.replicate k.toNat ds).flatten) m2 else .stuck
  | _, _ => .stuck
@[simp ↓] theorem dLstRep_ap (t : DA) (tb : DE) (e : En) (m : Mu) : dLstRep t tb e m = (dLst t e m).bind fun x m1 => (tb e m1).bind fun d m2 => match x, d with
  | .lst ds, .int k => if 0 ≤ k ∧ k < 2 ^ 62 ∧ ds.length * k.toNat ≤ sizeLine then .ok (.lst (List.replicate k.toNat ds).flatten) m2 else .stuck
  | _, _ => .stuck := rfl
theorem Reps.rep {K : PySem.W.Frag} {ι : List Addr} {F : Hp} {ds : List D} {vs : List V} (r : Reps K ι F ds vs) : ∀ n : Nat, Reps K ι F (List.replicate n ds).flatten (List.replicate n vs).flatten
  | 0 => .nil
  | n + 1 => by rw [List.replicate_succ, List.replicate_succ, List.flatten_cons, List.flatten_cons]; exact r.append (Reps.rep r n)
theorem pd_lstRep {lpos : Pos} (ha : PDA X es t) (hb : PDE X b tb) : PDE X (.BinOp (.List es lpos) .Mult b pos) (dLstRep t tb) := by
  refine pd_of (pe_op op_rep (pe_lst (mxA X es)) (mxE X b)) fun S r m σ Q sa re p => ?_
  unfold dLstRep dLst at p
  rw [resB_assoc] at p
  refine ha S r m σ _ sa re (Post.bindI p fun ds m1 xs T st sa1 rd q => ?_)
  split at q
  · rename_i hl
    refine ⟨by rw [← rd.len]; exact hl, fun p' hp => ?_⟩
    have st1 := Stp.new sa1 (o := .lst xs) hp
    refine hb (T.new p' (.lst xs)) r m1 σ _ (sa1.new hp) ((re.stp st).stp st1) (Post.bindI (Post.step st1 q) fun d m2 v U st2 sa2 rv q2 => ?_)
    cases rv with
    | int k =>
      dsimp only at q2
      split at q2
      · rename_i hk
        have h1 : U.H p' = some (.lst xs) := sa2.sub _ _ (st2.ext _ _ (upd_same))
        refine ⟨p', k, xs, rfl, rfl, h1, by omega, by omega, by rw [← rd.len]; exact hk.2.2, fun p2 hp2 => ?_⟩
        have st3 := Stp.new sa2 (o := .lst (List.replicate k.toNat xs).flatten) hp2
        exact q2 (.ref p2) (U.new p2 _) st3 (sa2.new hp2) (.lst (.inl (.inl upd_same)) ((((rd.stp st1).stp st2).rep _).stp st3))
      · exact q2.elim
    | _ => exact (show False from q2).elim
  · exact q.elim
end
end DL

namespace DL
open PySem PySem.Spec PySem.Calls PyProof.Rows L2
variable [LamTab]
/-! ### bool(x) of own classes -/
section
variable {prog : Program} {w : World} {A : Around} {E : Value → Shared → Prop} {s : Shared} {x : Addr}
theorem bool_call {Q : Value → Shared → Prop} (h : wpAny (model prog w) A.in1.in1 (truthy (.ref x)) (fun b s1 => Q (.bool b) s1) E s) : wpAny (model prog w) A (call (.type "bool") [.ref x]) Q E s := by
  refine callType_codes (T := "bool") (Bi := Builtin.«object.__init__») (Q₁ := fun r s₁ => ∃ b, r = .bool b ∧ Q r s₁) PySem.F.called_bool (PySem.F.typeCall_bool_1 _) PySem.F.entry_object_init ?_ ?_
  · refine codeAny_of_tree ?_
    show wpAny _ A.in1.in1 (do checkBuiltinCall "bool.__new__" ⟨[.type "bool", .ref x], []⟩; again (.builtin "bool.__new__" ⟨[.type "bool", .ref x], []⟩)) _ _ s
    refine wpAny_bind (wpAny_of_eq (PySem.F.newCall_bool_1 _) (wpAny_pure ⟨plainId_quiet (by decide +kernel) _, codeAny_builtin PySem.F.entry_bool_new ?_⟩))
    rw [Around.under_plainId (by decide +kernel) _]
    unfold Builtin.«bool.__new__»
    refine wpAny_bind (wpAny_pure ?_)
    refine wpAny_bind (wpAny_of_eq PySem.F.conv_sub_bool ?_)
    show wpAny _ _ (do match ← someArgs "bool" 0 1 { pos := [Value.ref x] } with
      | x :: tail => do
        let b ← truthy x
        ret (Value.bool b)
      | [] => ret (Value.bool false)) _ _ _
    refine wpAny_bind (wpAny_pure ?_)
    refine wpAny_bind (wpAny_mono h (fun b s1 hb => wpAny_pure ⟨b, rfl, hb⟩) fun _ _ y => y)
  · rintro obj s₁ ⟨b, rfl, hq⟩
    exact ⟨rfl, PySem.F.args_object_init_2 _ _, object_init_meets PySem.F.called_bool.init.lookup PySem.F.called_bool.made (by decide) prog w A.in1 _ s₁ ⟨rfl, rfl, hq⟩⟩
end
section
variable {X : Cx} {a b c e o tg : Expr} {es : List Expr} {ta tb tc te to u : DE} {t : DA} {pos p apos cpos : Pos} {k : Nat} {x mn : Str} {G : DFn}
def dBoolO (rows : List (Kl × DFn)) : DFn := fun ds m => match ds with
  | [x] => match insOf m x with
    | some (C, ns, _) => match methAt rows C ns with
      | some G => (G [x] m).bind fun r m1 => match r with
        | .bl n => .ok (.bl n) m1
        | _ => .stuck
      | none => .stuck
    | none => .stuck
  | _ => .stuck
theorem oc_boolO {rows : List (Kl × DFn)} (hrows : ∀ r ∈ rows, MRow X.prog X.w X.K X.mg X.base k "__bool__" r.1 r.2) (hr : Room (k + 2) X.A) : OC X (.type "bool") (dBoolO rows) := by
  intro pins s σ S m ds xs us Q sa r rv I p
  match ds, xs, us, r, rv with
  | [x], [vx], [u], .cons rx .nil, .cons hu .nil =>
    unfold dBoolO at p
    dsimp only at p
    split at p
    · rename_i C ns ds ei
      split at p
      · rename_i G eG
        obtain ⟨c, ok, rfl, rfl⟩ := methAt_ok (P := MRow X.prog X.w X.K X.mg X.base k "__bool__") hrows eG
        obtain ⟨a, dx, vs, rfl, h1, h2, h3⟩ := insOf_ok sa rx ei
        obtain ⟨f, fd, ps, dds, G0, hf1, hf2, hk, hf, hb, rfl⟩ := ok.ex
        obtain rfl : u = Value.ref a := hu
        obtain ⟨od1, J1⟩ := Inv.inst I h1
        obtain ⟨mm, F⟩ := I.fr
        refine bool_call (PySem.W.truthy_K F I.ok.mod.kin J1 hf1 hf2 (thn (run_fnA (us := [.ref a]) (Q := fun v H => ∃ b, v = .bl b ∧ Q (.bl b) H) hf hr.in1.in1 hb rfl I sa (.cons rx .nil) (.cons rfl .nil) (Post.bindI p fun r m2 v U st2 sa2 rv q2 => ?_)) fun v s1 h => ?_))
        · cases rv with
          | bl b => exact ⟨b, rfl, Post.ok q2 (Stp.refl U) sa2 (.bl b)⟩
          | _ => exact (show False from q2).elim
        · obtain ⟨y, H, I', r, b, rfl, q⟩ := h
          cases r
          exact ⟨.bl b, H, I', rfl, q⟩
      · exact (show False from p).elim
    · exact (show False from p).elim
  | [], _, _, _, _ => exact p.elim
  | _ :: _ :: _, _, _, _, _ => exact p.elim
/-! ### `is` of two truth values -/
def gIsB : D2 := fun x y m => match x, y with
  | .bl a, .bl b => .ok (.bl (decide (a = b))) m
  | _, _ => .stuck
def gNotB : D2 := fun x y m => match x, y with
  | .bl a, .bl b => .ok (.bl (!decide (a = b))) m
  | _, _ => .stuck
theorem od_isB : OD X (compareOp .Is) gIsB := by
  refine od_of op_isBl fun S m x y vx vy Q W sa rx ry p => ?_
  cases rx with
  | bl a =>
    cases ry with
    | bl b => exact ⟨a, b, rfl, rfl, Post.ok p (Stp.refl S) sa (.bl _)⟩
    | _ => exact (show False from p).elim
  | _ => exact (show False from p).elim
theorem od_notB : OD X (compareOp .IsNot) gNotB := by
  refine od_of op_notBl fun S m x y vx vy Q W sa rx ry p => ?_
  cases rx with
  | bl a =>
    cases ry with
    | bl b => exact ⟨a, b, rfl, rfl, Post.ok p (Stp.refl S) sa (.bl _)⟩
    | _ => exact (show False from p).elim
  | _ => exact (show False from p).elim
/-! ### *xs in a display or an argument list -/
def dStar (te : DE) (t : DA) : DA := fun e m => (te e m).bind fun d m1 => match seqA m1 d with
  | some ds => (t e m1).bind fun es m2 => .ok (ds ++ es) m2
  | none => .stuck
@[simp ↓] theorem dStar_ap (te : DE) (t : DA) (e : En) (m : Mu) : dStar te t e m = (te e m).bind fun d m1 => match seqA m1 d with
  | some ds => (t e m1).bind fun es m2 => .ok (ds ++ es) m2
  | none => .stuck := rfl
theorem pda_star (he : PDE X e te) (hr : PDA X es t) : PDA X (.Starred e p :: es) (dStar te t) := by
  refine pa_of (StX.pa_star (mxE X e) (mxA X es)) fun S r m σ Q sa re q => ?_
  refine he S r m σ _ sa re (Post.bindI q fun d m1 v T st sa1 rd q1 => ?_)
  split at q1
  · rename_i ds e1
    obtain ⟨a, xs, rfl, h1, h2⟩ := seqA_ok sa1 rd e1
    refine ⟨a, xs, rfl, h1.symm, ?_⟩
    refine hr T r m1 σ _ sa1 (re.stp st) (Post.bindI q1 fun ds2 m2 vs U st2 sa2 rds q2 => ?_)
    exact Post.ok q2 (Stp.refl U) sa2 ((h2.stp st2).append rds)
  · exact q1.elim
end
/-! ### defs with a star parameter -/
def spS (K : PySem.W.Frag) (F : DFn) : Sp := fun vs H Q E => ∃ (S : Wd) (m : Mu) (ds : List D), S.H = H ∧ Sta K S m ∧ Reps K S.i S.F ds vs ∧ PostD K S (F ds m) Q E
/-- the items beyond the first n are a tuple -/
def dRest (n : Nat) (F : DFn) : DFn := fun ds m => if n ≤ ds.length ∧ (ds.drop n).length ≤ sizeLine then F (ds.take n ++ [.tup (ds.drop n)]) m else .stuck
section
variable (P : Program) (w : World) (K : PySem.W.Frag) (mg : Str → Option Value) (base : Heap)
abbrev FnS (k : Nat) (f : Addr) (G : DFn) : Prop := FnR P w K mg base (L2.CX P w) k f (spS K G)
/-- a def with a star parameter by its global name -/
structure FSt (k : Nat) (x : Str) (G : DFn) : Prop where
  ex : ∃ (f : Addr), mg x = some (.ref f) ∧ PySem.W.keepIn K (.ref f) = true ∧ FnS P w K mg base k f G
end
section
variable {P : Program} {w : World} {K : PySem.W.Frag} {mg : Str → Option Value} {base : Heap}
theorem fnSt_of {x qual pv : Str} {params : Arguments} {body : List Stmt} {scope : Scope} {kws : List (Str × V)} {f : Addr} {fd : FuncData} {N ps : List Str} {k : Nat} {t : DS} (F : FunD K x qual params body scope [] kws f fd) (S : FnScope N (ps ++ [pv]) scope)
    (hb : ∀ (kV doc pm : Value) (an : Option Addr) (cdv ct : Value) (us rest : List Value), us.length = ps.length → bindArgs (PySem.W.fnOf x qual params body scope .none kV doc pm an cdv ct) ⟨us ++ rest, []⟩ = (newTuple rest >>= fun t => pure (ps.zip us ++ [(pv, t)])))
    (h : ∀ (cdv : Value) (A : Around) (outer : List Env) (s : Shared) (H : Hp) (E : XK), Room k (A.deeper (envOfC qual scope s.heap.objs.size f cdv)) → PDSs (cxOf (L2.CX P w) P w K mg base N qual scope f cdv A outer s H E) body t) :
    FnS P w K mg base (k + 1) f (dRest ps.length (dFn N.length t)) := by
  obtain ⟨oc, od, dV, kV, doc, pm, an, cdv, ct, osl, rfl, lk, hcd, hD, hK⟩ := F.ex
  obtain rfl := dfl_nil hD
  have z := StX.fn_star (P := P) (w := w) (mg := mg) (base := base) (CX := L2.CX P w) (k := k) (sp := spD K (ps.length + 1) (dFn N.length t)) lk hcd S StX.cxUp (hb kV doc pm an cdv ct) (fun A outer s H vs Q E hr hsp => ⟨_, mxSs _ body, by
    obtain ⟨_, T, m, ds, rfl, sa, rd, p⟩ := hsp
    refine h cdv A outer s T.H E hr T (env0 N.length ds) m (L2.start N vs) _ sa (relE_start rd) ?_
    have tk : Takes (cxOf (L2.CX P w) P w K mg base N qual scope f cdv A outer s T.H E) (fun cls d _ H => E cls d H) := takes_of rfl rfl rfl rfl
    unfold dFn at p
    cases q : t (env0 N.length ds) m with
    | stuck => rw [q] at p; exact p.elim
    | nx e m1 => rw [q] at p; exact fun σ U st sa1 re => p .non U st sa1 .non
    | rt d m1 => rw [q] at p; exact fun v U st sa1 r1 => p v U st sa1 r1
    | bk e m1 => rw [q] at p; exact p.elim
    | ct e m1 => rw [q] at p; exact p.elim
    | exc C fs e m1 => rw [q] at p; exact fun dd vs σ U st hn sa1 re h1 h2 => Fly.of tk (p dd vs U st hn sa1 h1 h2)⟩)
  intro A outer s H us vs Q E hr e0 r hsp
  refine z A outer s H us vs Q E hr e0 r ?_
  obtain ⟨T, m, ds, rfl, sa, rd, p⟩ := hsp
  unfold dRest at p
  split at p
  · rename_i hl
    have hl2 := rd.len
    refine ⟨vs.take ps.length, vs.drop ps.length, (List.take_append_drop _ _).symm, by rw [List.length_take]; omega, by rw [List.length_drop, ← hl2, ← List.length_drop]; exact hl.2, fun q hq => ?_⟩
    have st := Stp.new sa (o := .tup (vs.drop ps.length)) hq
    refine ⟨by rw [List.length_append, List.length_take]; simp only [List.length_singleton]; omega, T.new q (.tup (vs.drop ps.length)), m, _, rfl, sa.new hq, ((rd.take _).stp st).append (.cons (.tup (.inl (.inl upd_same)) ((rd.drop _).stp st)) .nil), p.step st⟩
  · exact p.elim
end
section
variable {X : Cx} {a b c e o tg : Expr} {es : List Expr} {ta tb tc te to u : DE} {t : DA} {pos p p2 apos cpos : Pos} {k : Nat} {x mn : Str} {G : DFn} {f : Addr}
theorem run_fnSt {A : Around} {pins : List (Addr × Obj)} {σ : L2.St} {S : Wd} {m : Mu} {s : Shared} {Q : VK} {us : List Value} {vs : List V} {das : List D} (F : FnS X.prog X.w X.K X.mg X.base k f G) (hr : Room k A)
    (hA : A.frames = X.A.frames) (I : Inv X pins σ S.H s) (sa : Sta X.K S m) (r : Reps X.K S.i S.F das vs) (rv : Vals vs us) (h : PostD X.K S (G das m) Q (fun c d H => Fly X c d σ H)) : wpAny (model X.prog X.w) A (call (.ref f) us) (EP X pins σ Q) X.xe s := by
  have e0 := I.env0
  have e1 : Env0 X.prog X.w X.K X.mg X.base A X.stack s S.H := ⟨hA.trans e0.frames, e0.mod, e0.bs, e0.bsz, e0.funs, e0.frf, e0.hok, e0.bare⟩
  refine wpAny_call (codeAny_mono (F A X.stack s S.H us vs Q (fun c d H => Fly X c d σ H) hr e1 rv ⟨S, m, _, rfl, sa, r, h⟩) fun r s' hq => ?_)
  cases r with
  | error e =>
    obtain ⟨a, B, sI, pins', σ', H', cls, d, e1, I', nb, up, sky, na, os, ag, e2, fl⟩ := XE.of_call I (W := fun c d σ' H => σ' = σ ∧ Fly X c d σ H) (fun cls d H' h => ⟨rfl, h⟩) hq
    exact fl e s' ⟨a, B, sI, pins', σ', H', cls, d, e1, I', nb, up, sky, na, os, ag, rfl, rfl, e2, rfl⟩
  | ok fl =>
    cases fl with
    | ret u => exact I.after hq
    | next => exact False.elim hq
    | brk => exact False.elim hq
    | cont => exact False.elim hq
/-- x(a, ..), x a def with a star parameter -/
theorem pd_funS (F : FSt X.prog X.w X.K X.mg X.base k x G) (hr : Room k X.A) (ha : PDA X (e :: es) t)
    (hg : Gl X x := by rfl) (hdb : (x == ("__debug__" : Str)) = false := by decide) (he : starEach (e :: es) X.env = (false, eval e X.env) :: starEach es X.env := by exact se_cons _ _ _ rfl) (hpl : (backTo pos (starEach es X.env)).any (·.1) = false := by exact se_any _ _ _ rfl) :
    PDE X (.Call (.Name x p) (e :: es) [] pos) (dFun G t) := by
  obtain ⟨f, hm, hk, hf⟩ := F.ex
  intro S r m σ Q sa re q pins s I
  refine wpAny_Call_Name_kw (ld_glob I hg hm ?_ hdb)
  refine PySem.W.callWith_K (h₀ := X.base) I.ok.mod.kin hk (thn (ha.run sa re q I pos) ?_) he hpl
  rintro us s1 ⟨xs, ds, m1, T, st, sa1, rds, rv, I1, q1⟩
  exact ⟨I1.kIn, run_fnSt hf hr rfl I1 sa1 rds rv q1⟩
theorem pd_funS0 (F : FSt X.prog X.w X.K X.mg X.base k x G) (hr : Room k X.A)
    (hg : Gl X x := by rfl) (hdb : (x == ("__debug__" : Str)) = false := by decide) : PDE X (.Call (.Name x p) [] [] pos) (dFun G dNil) := by
  obtain ⟨f, hm, hk, hf⟩ := F.ex
  intro S r m σ Q sa re q pins s I
  refine wpAny_Call_Name_kw (ld_glob I hg hm ?_ hdb)
  exact PySem.W.callWith_K0 I.kIn hk (run_fnSt (us := []) hf hr rfl I sa .nil .nil q)
/-- x(*ys) -/
theorem pd_funS1 (F : FSt X.prog X.w X.K X.mg X.base k x G) (hr : Room k X.A) (he : PDE X e te)
    (hg : Gl X x := by rfl) (hdb : (x == ("__debug__" : Str)) = false := by decide) (hst : starEach [.Starred e p2] X.env = [(true, eval e X.env)] := by rfl) :
    PDE X (.Call (.Name x p) [.Starred e p2] [] pos) (dFun G (dStar te dNil)) := by
  obtain ⟨f, hm, hk, hf⟩ := F.ex
  intro S r m σ Q sa re q pins s I
  refine wpAny_Call_Name_kw (ld_glob I hg hm ?_ hdb)
  unfold dFun dStar at q
  rw [resB_assoc] at q
  refine PySem.W.callWith_S (h₀ := X.base) I.ok.mod.kin hk (thn (he.run sa re q I) ?_) hst
  rintro u s1 ⟨y, d, m1, T, st, sa1, rd, rx, I1, q1⟩
  split at q1
  · rename_i ds e1
    obtain ⟨a, xs, rfl, h1, h2⟩ := seqA_ok sa1 rd e1
    obtain rfl : u = Value.ref a := rx
    refine StX.star_any I1 h1.symm fun us s2 I2 rv => ⟨I2.kIn, ?_⟩
    exact run_fnSt (us := us) hf hr rfl I2 sa1 h2 rv (by simpa [dNil, Res.bind] using q1)
  · exact (show False from q1).elim
end
end DL

namespace DL
open PySem PySem.Spec PySem.Calls PyProof.Rows L2
variable [LamTab]
section
variable {P : Program} {w : World} {K : PySem.W.Frag} {mg : Str → Option Value} {base : Heap}
/-- a plain def with its defaults is one of any number of arguments -/
theorem FnD.star {k : Nat} {f : Addr} {fd : FuncData} {ps : List Str} {G : DFn} {dds : List D} (F : FnD P w K mg base k f fd ps G) (hb : Bd K fd ps dds) : FnS P w K mg base k f (padF ps.length dds G) := by
  obtain ⟨ds, dvs, hb, hd, hD⟩ := hb.ex
  refine (F.raw hb hd).imp fun vs H Q E h => ?_
  obtain ⟨S, m, das, rfl, sa, r, p⟩ := h
  unfold padF at p
  split at p
  · rename_i hl
    have r1 : Reps K S.i S.F (das ++ dds) (vs ++ dvs) := r.append (hD _ _)
    exact ⟨by rw [← r1.len]; exact hl, S, m, _, rfl, sa, r1, p⟩
  · exact p.elim
end
/-- keywords, where there are defaults -/
theorem bkD {K : PySem.W.Frag} {x qual : Str} {params : Arguments} {body : List Stmt} {scope : Scope} {dvs : List V} {kws : List (Str × V)} {f : Addr} {fd : FuncData} {ps : List Str} (F : FunD K x qual params body scope dvs kws f fd) (n : Nat) (ks : List Str) (pl : List Nat) {dds : List D} (hd : dvs ≠ []) (hD : ∀ (i : List Addr) (F : Hp), Reps K i F dds dvs)
    (h : ∀ (T : Addr) (kV doc pm : Value) (an : Option Addr) (cdv ct : Value) (us ws its : List Value), us.length = n → ws.length = ks.length → its.length = dvs.length →
      ∃ k, bindArgs (PySem.W.fnOf x qual params body scope (.ref T) kV doc pm an cdv ct) ⟨us, ks.zip ws⟩ = seqItems? (.ref T) >>= k ∧ k (some its.toArray) = pure (ps.zip (pl.filterMap fun i => (us ++ ws ++ its)[i]?)) ∧ (pl.filterMap fun i => (us ++ ws ++ its)[i]?).length = ps.length) : BK K fd ps n ks pl dds := by
  obtain ⟨oc, od, dV, kV, doc, pm, an, cdv, ct, osl, rfl, lk, hcd, hV, hK⟩ := F.ex
  rcases hV with ⟨e, _⟩ | ⟨_, T, o, its, m, rfl, lT, oT, rT⟩
  · exact absurd e hd
  · refine ⟨its, dvs, rT, hD, fun s us ws X l1 l2 => ?_⟩
    obtain ⟨k, e1, e2, e3⟩ := h T kV doc pm an cdv ct us ws its l1 l2 rT.length.symm
    refine ⟨BindsTo.of_looks fun M => ?_, e3⟩
    rw [e1]
    exact looks_items X lT oT (.of_pure e2)
section
variable (P : Program) (w : World) (K : PySem.W.Frag) (mg : Str → Option Value) (base : Heap)
/-- x.mn, x a class, mn a classmethod of it -/
structure CMt (k : Nat) (x mn : Str) (G : DFn) : Prop where
  ex : ∃ (C pp g : Addr) (G0 : DFn), mg x = some (.ref C) ∧ ClX.CRead K C (.type "type") ∧ ClX.CMet K C (.type "type") mn pp g ∧ FnS P w K mg base k g G0 ∧ G = fun ds => G0 (.val (.ref C) :: ds)
end
section
variable {X : Cx} {a b c e o tg : Expr} {es : List Expr} {ta tb tc te to u : DE} {t : DA} {pos p p2 apos cpos : Pos} {k : Nat} {x mn : Str} {G : DFn} {f C : Addr}
/-- the call of a classmethod's record -/
theorem run_cmS {pins : List (Addr × Obj)} {σ : L2.St} {S : Wd} {m : Mu} {s : Shared} {Q : VK} {us : List Value} {vs : List V} {das : List D} {q g : Addr} (F : FnS X.prog X.w X.K X.mg X.base k g G) (hr : Room k X.A)
    (I : Inv X ((q, PySem.W.methodObj (.ref g) (.ref C)) :: pins) σ S.H s) (sa : Sta X.K S m) (r : Reps X.K S.i S.F das vs) (rv : Vals vs us) (h : PostD X.K S (G (.val (.ref C) :: das) m) Q (fun c d H => Fly X c d σ H)) :
    wpAny (model X.prog X.w) X.A (call (.ref q) us) (EP X pins σ Q) X.xe s := by
  have z : wpAny (model X.prog X.w) X.A (call (.ref q) us) (EP X ((q, PySem.W.methodObj (.ref g) (.ref C)) :: pins) σ Q) X.xe s := by
    refine wpAny_call (PySem.W.method_call (ClX.pin_at I) (codeAny_mono (F X.A X.stack s S.H (.ref C :: us) (.ref C :: vs) Q (fun c d H => Fly X c d σ H) hr I.env0 (.cons rfl rv) ⟨S, m, _, rfl, sa, .cons (.val _) r, h⟩) fun r s' hq => ?_))
    cases r with
    | error e =>
      obtain ⟨a, B, sI, pins', σ', H', cls, d, e1, I', nb, up, sky, na, os, ag, e2, fl⟩ := XE.of_call I (W := fun c d σ' H => σ' = σ ∧ Fly X c d σ H) (fun cls d H' h => ⟨rfl, h⟩) hq
      exact fl e s' ⟨a, B, sI, pins', σ', H', cls, d, e1, I', nb, up, sky, na, os, ag, rfl, rfl, e2, rfl⟩
    | ok fl =>
      cases fl with
      | ret u => exact I.after hq
      | next => exact False.elim hq
      | brk => exact False.elim hq
      | cont => exact False.elim hq
  exact thn z fun _ _ y => ClX.unpinE y
theorem pd_cmeth {pl : Sem Bool} (F : CMt X.prog X.w X.K X.mg X.base k x mn G) (hr : Room k X.A) (ha : PDA X (e :: es) t)
    (hg : Gl X x := by rfl) (hdb : (x == ("__debug__" : Str)) = false := by decide)
    (hst : starEach (e :: es) X.env = (false, eval e X.env) :: starEach es X.env := by exact se_cons _ _ _ rfl) (hpl : (backTo pos (starEach es X.env)).any (·.1) = false := by exact se_any _ _ _ rfl)
    (ht : eval (.Call (.Attribute (.Name x p2) mn apos) (e :: es) [] pos) X.env = (do
      let ov ← eval (.Name x p2) X.env
      standAt apos.atName
      let (f, first) ← holding [ov] (getMethod ov mn pl)
      callWith pos f first (backTo pos (starEach (e :: es) X.env)) (backToKw pos (keywordEach [] X.env))) := by rfl) :
    PDE X (.Call (.Attribute (.Name x p2) mn apos) (e :: es) [] pos) (dFun G t) := by
  obtain ⟨C, pp, g, G0, hm, r1, c1, hf, rfl⟩ := F.ex
  intro S r m σ Q sa re q pins s I
  refine PySem.W.methodCall_KW (pl := pl) (ld_glob I hg hm ?_ hdb) ht
  refine ClX.getmethcm_ok I r1 c1 fun s2 I2 => ?_
  refine ClX.callwith_cm I2 (ClX.base_none I (Nat.le_refl _)) c1.fi (thn (ha.run sa re q I2 pos) ?_) hst hpl
  rintro us s3 ⟨xs, das, m2, U, st2, sa2, rds, rv, I3, q2⟩
  exact ⟨⟨ClX.pin_at I3, I3.kIn⟩, run_cmS hf hr I3 sa2 rds rv q2⟩
/-- x.f, x a class, f a constant of it -/
structure CCon (K : PySem.W.Frag) (mg : Str → Option Value) (x f : Str) (d : D) : Prop where
  ex : ∃ (C : Addr) (v : V) (u : Value), mg x = some (.ref C) ∧ ClX.CRead K C (.type "type") ∧ ClX.CVal K C (.type "type") f v u ∧ RepA K d v
theorem pd_cval {f : Str} {d : D} (F : CCon X.K X.mg x f d) (hg : Gl X x := by rfl) (hdb : (x == ("__debug__" : Str)) = false := by decide)
    (hb : attributeBase (.Name x p2) f X.env (eval (.Name x p2) X.env) = eval (.Name x p2) X.env := by rfl) : PDE X (.Attribute (.Name x p2) f pos) (dC d) := by
  obtain ⟨C, v, u, hm, r1, c1, ra⟩ := F.ex
  exact pd_of (ClX.pe_cval (pe_glob (v := .ref C) hg hm rfl hdb) hb) fun S r m σ Q sa re q => ⟨C, _, v, u, rfl, r1, c1, Post.ok q (Stp.refl S) sa (ra.to _ _)⟩
/-- a class in a variable, called -/
noncomputable def dMakeV (i : Nat) (C : Addr) (G : DFn) (t : DA) : DE := fun e m => match e[i]? with
  | some (some (.val (.ref a))) => if a = C then dMake C G t e m else .stuck
  | _ => .stuck
@[simp ↓] theorem dMakeV_ap (i : Nat) (C : Addr) (G : DFn) (t : DA) (e : En) (m : Mu) : dMakeV i C G t e m = match e[i]? with
  | some (some (.val (.ref a))) => if a = C then dMake C G t e m else .stuck
  | _ => .stuck := rfl
theorem pd_makeV {i : Nat} {y : Str} (F : KT X.prog X.w X.K X.mg X.base k y C G) (hr : Room (k + 1) X.A) (ha : PDA X (e :: es) t)
    (hN : X.N[i]? = some x := by rfl) (hv : Vis X.env.scope x := by first | exact Or.inl rfl | exact Or.inr (Or.inl rfl) | exact Or.inr (Or.inr rfl)) (hd : (x == ("__debug__" : Str)) = false := by decide)
    (hcd : (x == ("__classdict__" : Str)) = false := by decide)
    (ht : eval (.Call (.Name x p) (e :: es) [] pos) X.env = (do callWith pos (← eval (.Name x p) X.env) [] (backTo pos (starEach (e :: es) X.env)) (backToKw pos (keywordEach [] X.env))) := by rfl)
    (he : starEach (e :: es) X.env = (false, eval e X.env) :: starEach es X.env := by exact se_cons _ _ _ rfl) (hpl : (backTo pos (starEach es X.env)).any (·.1) = false := by exact se_any _ _ _ rfl) :
    PDE X (.Call (.Name x p) (e :: es) [] pos) (dMakeV i C G t) := by
  intro S r m σ Q sa re q pins s I
  unfold dMakeV at q
  split at q
  · rename_i a e1
    split at q
    · rename_i hC
      subst hC
      obtain ⟨v, h1, h2⟩ := re.2 i _ e1
      cases h2
      refine Call_ (thn ((pe_var (i := i) hN hv hd hcd).run pins s σ S.H (fun v H => v = .ref a ∧ H = S.H) I ⟨_, h1, rfl, rfl⟩) fun u s1 ⟨y, H1, I1, ry, ey, eH⟩ => ?_) ht
      subst ey; subst eH
      obtain rfl : u = Value.ref a := ry
      obtain ⟨_, _, _, _, _, M, _⟩ := F.ex
      refine PySem.W.callWith_K (h₀ := X.base) I1.ok.mod.kin M.kp (thn (ha.run sa re q I1 pos) ?_) he hpl
      rintro us s1 ⟨xs, ds, m1, T, st, sa1, rds, rv, I1, q1⟩
      exact ⟨I1.kIn, run_mk F hr I1 sa1 rds rv q1⟩
    · exact q.elim
  · exact q.elim
end
end DL

namespace DL
open PySem PySem.Spec PyProof.Rows L2
variable [LamTab]
/-! ### what is walked, as long as the store is as it was -/
abbrev GdL := List D × (Mu → Prop)
abbrev DAG := En → Mu → Res GdL
def PostIG (K : PySem.W.Frag) (S : Wd) (r : Res GdL) (R : It → Hp → Prop) (W : XK) : Prop := match r with
  | .stuck => False
  | .ok x m => ∀ J T, Stp S T → Sta K T m → ItOkG K x.2 T J x.1 → R J T.H
  | .exc C fs m => ∀ dd vs T, Stp S T → S.H dd = none → Sta K T m → T.H dd = some (.xd vs) → RepF K T.i T.F fs vs → W (.ref C) (some dd) T.H
def PDIG (X : Cx) (tg iter : Expr) (t : DAG) : Prop := ∀ S r m σ R, Sta X.K S m → RelE X.K S r σ → PostIG X.K S (t r m) R (fun c d H => Fly X c d σ H) → WI X tg iter σ S.H R
theorem pdig_of {X : Cx} {tg iter : Expr} {u : TI} {t : DAG} (h : PI X tg iter u) (k : ∀ S r m σ R, Sta X.K S m → RelE X.K S r σ → PostIG X.K S (t r m) R (fun c d H => Fly X c d σ H) → u σ S.H R) : PDIG X tg iter t :=
  fun S r m σ R sa re p pins s I => h.run pins s σ S.H R I (k S r m σ R sa re p)
theorem PostIG.bindI {α β : Type} {R' : Wd → α → β → Prop} {K : PySem.W.Frag} {S : Wd} {r : Res α} {f : α → Mu → Res GdL} {Q : It → Hp → Prop} {Q' : β → Hp → Prop} {W : XK} (h : PostIG K S (r.bind f) Q W)
    (g : ∀ a m v T, Stp S T → Sta K T m → R' T a v → PostIG K T (f a m) Q W → Q' v T.H) : Post R' K S r Q' W := by
  cases r with
  | stuck => exact h
  | ok a m =>
    intro v U s1 s2 s3
    refine g a m v U s1 s2 s3 ?_
    have h : PostIG K S (f a m) Q W := h
    cases q : f a m with
    | stuck => rw [q] at h; exact h
    | ok ds m1 => rw [q] at h; exact fun J T st => h J T (s1.trans st)
    | exc C fs m1 => rw [q] at h; exact fun dd vs T st hn => h dd vs T (s1.trans st) (s1.old dd hn)
  | exc C fs m => exact h
/-- any walk of the old kind -/
def liG (t : DA) : DAG := fun e m => (t e m).bind fun ds m1 => .ok (ds, fun _ => True) m1
@[simp ↓] theorem liG_ap (t : DA) (e : En) (m : Mu) : liG t e m = (t e m).bind fun ds m1 => .ok (ds, fun _ => True) m1 := rfl
def orG (t u : DAG) : DAG := fun e m => match t e m with
  | .stuck => u e m
  | r => r
@[simp ↓] theorem orG_ap (t u : DAG) (e : En) (m : Mu) : orG t u e m = match t e m with
  | .stuck => u e m
  | r => r := rfl
def seqGL (m : Mu) (d : D) : Option GdL := match d with
  | .lst ds => some (ds, fun _ => True)
  | .loc n => match m[n]? with
    | some (.lst ds) => some (ds, fun m => m[n]? = some (.lst ds))
    | _ => none
  | _ => none
@[simp] theorem seqGL_lst (m : Mu) (ds : List D) : seqGL m (.lst ds) = some (ds, fun _ => True) := rfl
@[simp] theorem seqGL_loc (m : Mu) (n : Nat) : seqGL m (.loc n) = match m[n]? with
  | some (.lst ds) => some (ds, fun m => m[n]? = some (.lst ds))
  | _ => none := rfl
def dItGL (ta : DE) : DAG := fun e m => (ta e m).bind fun d m1 => match seqGL m1 d with
  | some x => .ok x m1
  | none => .stuck
@[simp ↓] theorem dItGL_ap (ta : DE) (e : En) (m : Mu) : dItGL ta e m = (ta e m).bind fun d m1 => match seqGL m1 d with
  | some x => .ok x m1
  | none => .stuck := rfl
def dItGE (t : DA) : DAG := fun e m => (t e m).bind fun ds m1 => match ds with
  | [d] => match seqGL m1 d with
    | some x => .ok ((List.range x.1.length).zipWith (fun k d => .tup [.int (k : Nat), d]) x.1, x.2) m1
    | none => .stuck
  | _ => .stuck
@[simp ↓] theorem dItGE_ap (t : DA) (e : En) (m : Mu) : dItGE t e m = (t e m).bind fun ds m1 => match ds with
  | [d] => match seqGL m1 d with
    | some x => .ok ((List.range x.1.length).zipWith (fun k d => .tup [.int (k : Nat), d]) x.1, x.2) m1
    | none => .stuck
  | _ => .stuck := rfl
def dItGZ (t : DA) : DAG := fun e m => (t e m).bind fun ds m1 => match ds with
  | [a, b] => match seqGL m1 a, seqGL m1 b with
    | some x, some y => .ok (x.1.zipWith (fun x y => .tup [x, y]) y.1, fun m => x.2 m ∧ y.2 m) m1
    | _, _ => .stuck
  | _ => .stuck
@[simp ↓] theorem dItGZ_ap (t : DA) (e : En) (m : Mu) : dItGZ t e m = (t e m).bind fun ds m1 => match ds with
  | [a, b] => match seqGL m1 a, seqGL m1 b with
    | some x, some y => .ok (x.1.zipWith (fun x y => .tup [x, y]) y.1, fun m => x.2 m ∧ y.2 m) m1
    | _, _ => .stuck
  | _ => .stuck := rfl
section
variable {K : PySem.W.Frag} {T : Wd} {m : Mu} {d : D} {v : V} {x : GdL}
theorem lookG (sa : Sta K T m) (rd : Rep K T.i T.F d v) (h : seqGL m d = some x) : x.2 m ∧ ∃ a, v = .ref a ∧ ∀ U m', Stp T U → Sta K U m' → x.2 m' → ∃ xs, SqL K U.H a xs ∧ Reps K U.i U.F x.1 xs := by
  unfold seqGL at h
  split at h
  · rename_i ds
    cases h
    obtain ⟨a, xs, rfl, hr, kk⟩ := frozen sa rd
    exact ⟨trivial, a, rfl, fun U m' st' sa' _ => ⟨xs, kk U m' st' sa'⟩⟩
  · rename_i n
    split at h
    · rename_i ds e0
      cases h
      cases rd with
      | @loc _ a ha =>
      refine ⟨e0, a, rfl, fun U m' st' sa' e' => ?_⟩
      obtain ⟨xs, q1, q2⟩ := sa'.ok n a _ (pre_get st'.pre ha) e'
      exact ⟨xs, .inl (.inl q1), q2⟩
    · cases h
  · cases h
end
section
variable {X : Cx} {a b tg iter : Expr} {pos p tpos : Pos} {t u : DA} {ta : DE} {tG uG : DAG}
theorem pdig_pdi (h : PDI X tg iter t) : PDIG X tg iter (liG t) := fun S r m σ R sa re p => h S r m σ R sa re (by
  unfold liG at p
  cases q : t r m with
  | stuck => rw [q] at p; exact p
  | exc C fs m1 => rw [q] at p; exact p
  | ok ds m1 =>
    rw [q] at p
    intro J T st sa1 hJ
    exact p J T st sa1 (fun U m' i s1 s2 _ => hJ U m' i s1 s2))
theorem pdig_or (h : PDIG X tg iter tG) (h2 : PDIG X tg iter uG) : PDIG X tg iter (orG tG uG) := fun S r m σ R sa re p => by
  unfold orG at p
  cases q : tG r m with
  | stuck => rw [q] at p; exact h2 S r m σ R sa re p
  | ok d m1 => exact h S r m σ R sa re (by rw [q] at p ⊢; exact p)
  | exc C fs m1 => exact h S r m σ R sa re (by rw [q] at p ⊢; exact p)
theorem pdig_list (hi : PDE X iter ta) : PDIG X tg iter (dItGL ta) := by
  refine pdig_of (pi_list (mxE X iter)) fun S r m σ R sa re p => ?_
  refine hi S r m σ _ sa re (PostIG.bindI p fun d m1 v T st sa1 rd q => ?_)
  split at q
  · rename_i x e
    obtain ⟨g0, a, rfl, look⟩ := lookG sa1 rd e
    obtain ⟨xs, k1, k2⟩ := look T m1 (Stp.refl T) sa1 g0
    refine ⟨a, rfl, ⟨xs, k1⟩, q _ T (Stp.refl T) sa1 fun U m' i st' sa' hgd => ?_⟩
    obtain ⟨xs, l1, l2⟩ := look U m' st' sa' hgd
    refine ⟨fun d hd => ?_, fun hl => ⟨xs, l1, by rw [← l2.len]; exact hl⟩⟩
    obtain ⟨v, hv, rv⟩ := l2.get hd
    refine ⟨⟨xs, v, l1, hv⟩, fun x H' hy => ⟨U, hy.1.symm, Stp.refl U, sa', ?_⟩⟩
    have := hy.2 xs l1
    rw [hv] at this; cases this
    exact rv
  · exact q.elim
theorem pdig_enum {elts : List Expr} {kk : Nat} (hm : X.mg "enumerate" = none) (ha : PDA X [a] t) (hg : Gl X "enumerate" := by rfl) (hs : starEach [a] X.env = [(false, eval a X.env)] := by rfl) : PDIG X (.Tuple elts kk tpos) (.Call (.Name "enumerate" p) [a] [] pos) (dItGE t) := by
  refine pdig_of (pi_enum hg hm (mxA X [a]) hs) fun S r m σ R sa re p => ?_
  refine ha S r m σ _ sa re (PostIG.bindI p fun d m1 v T st sa1 rd q => ?_)
  split at q
  · split at q
    · rename_i es x e
      obtain ⟨w, rfl, hw⟩ := reps1 rd
      obtain ⟨g0, a, rfl, look⟩ := lookG sa1 hw e
      obtain ⟨xs, k1, k2⟩ := look T m1 (Stp.refl T) sa1 g0
      refine ⟨a, xs, rfl, k1, q _ T (Stp.refl T) sa1 fun U m' i st' sa' hgd => ?_⟩
      obtain ⟨xs, l1, l2⟩ := look U m' st' sa' hgd
      refine ⟨fun d hd => ?_, fun hl => ⟨xs, l1, ?_⟩⟩
      · obtain ⟨x, hx, rfl⟩ := enum_get _ i d hd
        obtain ⟨v, hv, rv⟩ := l2.get hx
        refine ⟨⟨xs, v, l1, hv⟩, fun y H' hy => ?_⟩
        obtain ⟨n, z, rfl, hn, rfl, hz⟩ := hy
        have hz' := hz xs l1
        rw [hv] at hz'; cases hz'
        have st2 := Stp.new sa' (o := .tup [.int (i : Nat), v]) hn
        exact ⟨U.new n _, rfl, st2, sa'.new hn, .tup (.inl (.inl upd_same)) (.cons (.int _) (.cons (rv.stp st2) .nil))⟩
      · have hl : ((List.range x.1.length).zipWith (fun k d => D.tup [.int (k : Nat), d]) x.1).length ≤ i := hl
        rw [List.length_zipWith, List.length_range, Nat.min_self, l2.len] at hl
        exact hl
    · exact q.elim
  · exact q.elim
theorem pdig_zip {elts : List Expr} {kk : Nat} (hm : X.mg "zip" = none) (ha : PDA X [a, b] t) (hg : Gl X "zip" := by rfl) (hs : starEach [a, b] X.env = (false, eval a X.env) :: starEach [b] X.env := by rfl) (hpl : (backTo pos (starEach [b] X.env)).any (·.1) = false := by rfl) : PDIG X (.Tuple elts kk tpos) (.Call (.Name "zip" p) [a, b] [] pos) (dItGZ t) := by
  refine pdig_of (RZ.pi_zipA hg hm (mxA X [a, b]) hs hpl) fun S r m σ R sa re p => ?_
  refine ha S r m σ _ sa re (PostIG.bindI p fun d m1 v T st sa1 rd q => ?_)
  split at q
  · split at q
    · rename_i x y e e2
      obtain ⟨w, w2, rfl, hw, hw2⟩ := reps2 rd
      obtain ⟨g0, a, rfl, look⟩ := lookG sa1 hw e
      obtain ⟨g1, b, rfl, look2⟩ := lookG sa1 hw2 e2
      obtain ⟨xs, k1, _⟩ := look T m1 (Stp.refl T) sa1 g0
      obtain ⟨ys, k2, _⟩ := look2 T m1 (Stp.refl T) sa1 g1
      refine ⟨a, b, xs, ys, rfl, .inl ⟨k1, k2, q _ T (Stp.refl T) sa1 fun U m' i st' sa' hgd => ?_⟩⟩
      obtain ⟨xs, l1, l2⟩ := look U m' st' sa' hgd.1
      obtain ⟨ys, n1, n2⟩ := look2 U m' st' sa' hgd.2
      refine ⟨fun d hd => ?_, fun hl => ⟨xs, ys, l1, n1, ?_⟩⟩
      · obtain ⟨x, y, hx, hy, rfl⟩ := zip_get hd
        obtain ⟨v, hv, rv⟩ := l2.get hx
        obtain ⟨v2, hv2, rv2⟩ := n2.get hy
        refine ⟨⟨xs, ys, v, v2, l1, n1, hv, hv2⟩, fun y H' hy => ?_⟩
        obtain ⟨n, z, z2, rfl, hn, rfl, hz, hz2⟩ := hy
        have hz' := hz xs l1
        have hz2' := hz2 ys n1
        rw [hv] at hz'; cases hz'
        rw [hv2] at hz2'; cases hz2'
        have st2 := Stp.new sa' (o := .tup [v, v2]) hn
        exact ⟨U.new n _, rfl, st2, sa'.new hn, .tup (.inl (.inl upd_same)) (.cons (rv.stp st2) (.cons (rv2.stp st2) .nil))⟩
      · have hl : (x.1.zipWith (fun x y => D.tup [x, y]) y.1).length ≤ i := hl
        rw [List.length_zipWith, l2.len, n2.len] at hl
        omega
    · exact q.elim
  · exact q.elim
end
/-! ### comprehensions and loops over them -/
noncomputable def dCompX (fin : List D → Mu → Res D) (t : DAG) (g : DG) (c : DT) (b : DE) (own : List Nat) : DE := fun e m => (t e m).bind fun x m1 => (dCompG x.2 g c b (wipeE e own) x.1 m1 []).bind fin
@[simp ↓] theorem dCompX_ap (fin : List D → Mu → Res D) (t : DAG) (g : DG) (c : DT) (b : DE) (own : List Nat) (e : En) (m : Mu) : dCompX fin t g c b own e m = (t e m).bind fun x m1 => (dCompG x.2 g c b (wipeE e own) x.1 m1 []).bind fin := rfl
open Classical in
noncomputable def dLoopG (g : DG) (b : DS) (gd : Mu → Prop) : List D → En → Mu → RS
  | [], e, m => if gd m then .nx e m else .stuck
  | d :: ds, e, m => if gd m then (match g d e with
    | none => .stuck
    | some e1 => match b e1 m with
      | .nx e2 m2 => dLoopG g b gd ds e2 m2
      | .ct e2 m2 => dLoopG g b gd ds e2 m2
      | .bk e2 m2 => .nx e2 m2
      | .rt d m2 => .rt d m2
      | .exc C fs e2 m2 => .exc C fs e2 m2
      | .stuck => .stuck) else .stuck
noncomputable def dForX (t : DAG) (g : DG) (b : DS) : DS := fun e m => match t e m with
  | .ok x m1 => dLoopG g b x.2 x.1 e m1
  | .exc C fs m1 => .exc C fs e m1
  | .stuck => .stuck
@[simp ↓] theorem dForX_ap (t : DAG) (g : DG) (b : DS) (e : En) (m : Mu) : dForX t g b e m = match t e m with
  | .ok x m1 => dLoopG g b x.2 x.1 e m1
  | .exc C fs m1 => .exc C fs e m1
  | .stuck => .stuck := rfl
section
variable {X : Cx} {elt tg iter tg1 iter1 : Expr} {ifs ifs1 : List Expr} {scope : Scope} {own : List (Str × Nat)} {vs1 : List Nat} {pos spos : Pos} {t t1 : DAG} {g g1 : DG} {c c1 : DT} {b : DE} {sl sl1 : List Nat} {fin : List D → Mu → Res D}
theorem lc_goX {σ : L2.St} {S : Wd} {r : En} {m : Mu} {Q : VK} (hi : PDIG X tg iter t)
    (hg : ∀ s H C cl fp, PDG (Bk X scope s H C cl fp) tg g sl) (ht : ∀ s H C cl fp, PDTs (Bk X scope s H C cl fp) ifs c) (he : ∀ s H C cl fp, PDE (Bk X scope s H C cl fp) elt b)
    (hsl : ∀ i ∈ sl, i ∈ own.map (·.2)) (hfin : FinOk X.K fin)
    (sa : Sta X.K S m) (re : RelE X.K S r σ) (p : PostD X.K S (dCompX fin t g c b (own.map (·.2)) r m) Q (fun c d H => Fly X c d σ H)) :
    tLc (WI X tg iter) (bG X scope tg) (bT X scope ifs) (bE X scope elt) (own.map (·.2)) σ S.H Q := by
  refine hi S r m σ _ sa re ?_
  unfold dCompX at p
  cases q : t r m with
  | stuck => rw [q] at p; exact p
  | exc C fs m1 => rw [q] at p; exact p
  | ok x m1 =>
    rw [q] at p
    intro J T st sa1 hJ
    have pT : PostD X.K T ((dCompG x.2 g c b (wipeE r (own.map (·.2))) x.1 m1 []).bind fin) Q (fun c d H => Fly X c d σ H) := Post.step st p
    exact lc_goG hg ht he hsl hfin sa1 (re.stp st) hJ pT
theorem pd_lcX (hi : PDIG X tg iter t) (hN : X.N.Nodup) (ok : BlkOk X.N X.env.scope scope own)
    (hg : ∀ s H C cl fp, PDG (Bk X scope s H C cl fp) tg g sl) (ht : ∀ s H C cl fp, PDTs (Bk X scope s H C cl fp) ifs c) (he : ∀ s H C cl fp, PDE (Bk X scope s H C cl fp) elt b) (hfin : FinOk X.K fin)
    (hc : X.calm = true) (hsl : ∀ i ∈ sl, i ∈ own.map (·.2) := by decide) (hs : ∀ x, foldedSetIterable iter X.env x = pure x := by intro _; rfl) :
    PDE X (.ListComp elt [⟨tg, iter, ifs, 0⟩] scope pos) (dCompX fin t g c b (own.map (·.2))) :=
  pd_of (pe_lc hc hN (mxI X tg iter) ok (mxBG X scope tg) (mxBT X scope ifs) (mxBE X scope elt) hs) fun S r m σ Q sa re p => lc_goX hi hg ht he hsl hfin sa re p
theorem pds_setLcX {i : Nat} {y : Str} {py : Pos} (hi : PDIG X tg iter t) (hN : X.N.Nodup) (ok : BlkOk X.N X.env.scope scope own)
    (hg : ∀ s H C cl fp, PDG (Bk X scope s H C cl fp) tg g sl) (ht : ∀ s H C cl fp, PDTs (Bk X scope s H C cl fp) ifs c) (he : ∀ s H C cl fp, PDE (Bk X scope s H C cl fp) elt b) (hfin : FinOk X.K fin)
    (hc : X.calm = true) (hsw : swapsWith (.ListComp elt [⟨tg, iter, ifs, 0⟩] scope pos) (some (.Name y py)) spos.line X.env = pure true) (hsl : ∀ i ∈ sl, i ∈ own.map (·.2) := by decide) (hy : X.N[i]? = some y := by rfl) (hyl : X.env.scope.names.lookup y = some .local := by rfl) (hs : ∀ x, foldedSetIterable iter X.env x = pure x := by intro _; rfl) :
    PDS X (.Assign [.Name y py] (.ListComp elt [⟨tg, iter, ifs, 0⟩] scope pos) spos) (dSet i (dCompX fin t g c b (own.map (·.2)))) := by
  refine ps_of (ps_setLc hc hN hy hyl hsw (mxI X tg iter) ok (mxBG X scope tg) (mxBT X scope ifs) (mxBE X scope elt) hs) fun S r m σ N sa re p => ?_
  exact lc_goX hi hg ht he hsl hfin sa re (PDE.stm re p fun d m1 v T st sa1 rd q => q _ T (Stp.refl T) sa1 ((re.stp st).set i rd))
theorem pds_forX {body : List Stmt} {u : DS} (hi : PDIG X tg iter t) (hg : PDG X tg g sl) (hb : PDSs X body u) (hc : X.calm = true) (hp : PassesOwn (model X.prog X.w) X.A X.env X.xe)
    (hs : ∀ x, foldedSetIterable iter X.env x = pure x := by intro _; rfl) : PDS X (.For tg iter body [] pos) (dForX t g u) := by
  refine ps_of (ps_for hp hc (mxI X tg iter) (mxG X tg) (mxSs X body) hs) fun S r m σ N sa re p => hi S r m σ _ sa re ?_
  unfold dForX at p
  cases q : t r m with
  | stuck => rw [q] at p; exact p
  | exc C fs m1 => rw [q] at p; exact fun dd vs T st hn sa1 h1 h2 => p dd vs σ T st hn sa1 (re.stp st) h1 h2
  | ok x m1 =>
    obtain ⟨ds, gd⟩ := x
    rw [q] at p
    intro J T st sa1 hJ
    refine ⟨fun i n σ' H' => n = ds.length - i ∧ i ≤ ds.length ∧ ∃ (U : Wd) (e : En) (m' : Mu), U.H = H' ∧ Stp T U ∧ Sta X.K U m' ∧ RelE X.K U e σ' ∧ PostS X.K U (dLoopG g u gd (ds.drop i) e m') N (Fly X),
      ⟨ds.length, by simp, Nat.zero_le _, T, r, m1, rfl, Stp.refl T, sa1, re.stp st, PostS.step st p⟩, ?_⟩
    rintro i n σ' H' ⟨rfl, hi', U, e, m', rfl, stU, saU, reU, pU⟩
    by_cases hlt : i < ds.length
    · rw [List.drop_eq_getElem_cons hlt] at pU
      unfold dLoopG at pU
      split at pU
      · rename_i hgd
        have hJ1 := (hJ U m' i stU saU hgd).1 _ (List.getElem?_eq_getElem hlt)
        refine .inr ⟨hJ1.1, fun σ2 H2 => i + 1 ≤ ds.length ∧ ∃ (U2 : Wd) (e2 : En) (m2 : Mu), U2.H = H2 ∧ Stp T U2 ∧ Sta X.K U2 m2 ∧ RelE X.K U2 e2 σ2 ∧ PostS X.K U2 (dLoopG g u gd (ds.drop (i + 1)) e2 m2) N (Fly X),
          fun σ2 H2 h2 => ⟨ds.length - (i + 1), by omega, rfl, h2.1, h2.2⟩, fun x H2 hy => ?_⟩
        obtain ⟨Y, rfl, stY, saY, rdY⟩ := hJ1.2 x H2 hy
        have pY := PostS.step stY pU
        cases qg : g ds[i] e with
        | none => rw [qg] at pY; exact pY.elim
        | some e1 =>
          rw [qg] at pY
          refine hg Y e m' σ' ds[i] x e1 _ saY (reU.stp stY) rdY qg fun σ1 re1 _ => hb Y e1 m' σ1 _ saY re1 ?_
          have stT := stU.trans stY
          dsimp only at pY
          cases qb : u e1 m' with
          | stuck => rw [qb] at pY; exact pY.elim
          | nx e2 m2 => rw [qb] at pY; exact fun σ2 Z stZ saZ reZ => ⟨hlt, Z, e2, m2, rfl, stT.trans stZ, saZ, reZ, PostS.step stZ pY⟩
          | ct e2 m2 => rw [qb] at pY; exact fun σ2 Z stZ saZ reZ => ⟨hlt, Z, e2, m2, rfl, stT.trans stZ, saZ, reZ, PostS.step stZ pY⟩
          | bk e2 m2 => rw [qb] at pY; exact pY
          | rt d m2 => rw [qb] at pY; exact pY
          | exc C fs e2 m2 => rw [qb] at pY; exact pY
      · exact pU.elim
    · have e : i = ds.length := by omega
      subst e
      rw [List.drop_length] at pU
      unfold dLoopG at pU
      split at pU
      · rename_i hgd
        exact .inl ⟨(hJ U m' _ stU saU hgd).2 (Nat.le_refl _), pU σ' U (Stp.refl U) saU reU⟩
      · exact pU.elim
end
open Classical in
noncomputable def dLc1G (n : Nat) (gd : Mu → Prop) (g : DG) (c : DT) (b : DE) (e : En) : List D → Mu → Res Unit
  | [], m => if gd m then .ok () m else .stuck
  | d :: ds, m => if gd m then (match g d e with
    | none => .stuck
    | some e1 => match c e1 m with
      | .ok true m1 => match b e1 m1 with
        | .ok x m2 => match m2[n]? with
          | some (.lst acc) => if acc.length < sizeLine then dLc1G n gd g c b e ds (m2.set n (.lst (acc ++ [x]))) else .stuck
          | _ => .stuck
        | _ => .stuck
      | .ok false m1 => dLc1G n gd g c b e ds m1
      | _ => .stuck) else .stuck
open Classical in
noncomputable def dLc2G (n : Nat) (gd : Mu → Prop) (g : DG) (c : DT) (t1 : DAG) (g1 : DG) (c1 : DT) (b : DE) (vs1 : List Nat) (e : En) : List D → Mu → Res Unit
  | [], m => if gd m then .ok () m else .stuck
  | d :: ds, m => if gd m then (match g d e with
    | none => .stuck
    | some e1 => match c e1 m with
      | .ok true m1 => match t1 e1 m1 with
        | .ok x1 m2 => (dLc1G n x1.2 g1 c1 b (wipeE e1 vs1) x1.1 m2).bind fun _ m3 => dLc2G n gd g c t1 g1 c1 b vs1 e ds m3
        | _ => .stuck
      | .ok false m1 => dLc2G n gd g c t1 g1 c1 b vs1 e ds m1
      | _ => .stuck) else .stuck
noncomputable def dComp2X (t : DAG) (g : DG) (c : DT) (t1 : DAG) (g1 : DG) (c1 : DT) (b : DE) (own vs1 : List Nat) : DE := fun e m =>
  (t e m).bind fun x m1 => (dLc2G m1.length x.2 g c t1 g1 c1 b vs1 (wipeE e own) x.1 (m1 ++ [.lst []])).bind fun _ m2 => .ok (.loc m1.length) m2
@[simp ↓] theorem dComp2X_ap (t : DAG) (g : DG) (c : DT) (t1 : DAG) (g1 : DG) (c1 : DT) (b : DE) (own vs1 : List Nat) (e : En) (m : Mu) : dComp2X t g c t1 g1 c1 b own vs1 e m =
  (t e m).bind fun x m1 => (dLc2G m1.length x.2 g c t1 g1 c1 b vs1 (wipeE e own) x.1 (m1 ++ [.lst []])).bind fun _ m2 => .ok (.loc m1.length) m2 := rfl
section
variable {X : Cx} {elt tg iter tg1 iter1 : Expr} {ifs ifs1 : List Expr} {scope : Scope} {own : List (Str × Nat)} {vs1 : List Nat} {pos spos : Pos} {t t1 : DAG} {g g1 : DG} {c c1 : DT} {b : DE} {sl sl1 : List Nat}
theorem lc2_goX {σ : L2.St} {S : Wd} {r : En} {m : Mu} {Q : VK} (hi : PDIG X tg iter t)
    (hg : ∀ s H C cl fp, PDG (Bk X scope s H C cl fp) tg g sl) (ht : ∀ s H C cl fp, PDTs (Bk X scope s H C cl fp) ifs c)
    (hi1 : ∀ s H C cl fp, PDIG (Bk X scope s H C cl fp) tg1 iter1 t1)
    (hg1 : ∀ s H C cl fp, PDG (Bk X scope s H C cl fp) tg1 g1 sl1) (ht1 : ∀ s H C cl fp, PDTs (Bk X scope s H C cl fp) ifs1 c1)
    (he : ∀ s H C cl fp, PDE (Bk X scope s H C cl fp) elt b)
    (hsl : ∀ i ∈ sl, i ∈ own.map (·.2)) (hsl1 : ∀ i ∈ sl1, i ∈ vs1)
    (sa : Sta X.K S m) (re : RelE X.K S r σ) (p : PostD X.K S (dComp2X t g c t1 g1 c1 b (own.map (·.2)) vs1 r m) Q (fun c d H => Fly X c d σ H)) :
    tLc2 (WI X tg iter) (bG X scope tg) (bT X scope ifs) (bI X scope tg1 iter1) (bG X scope tg1) (bT X scope ifs1) (bE X scope elt) (own.map (·.2)) vs1 σ S.H Q := by
  refine hi S r m σ _ sa re ?_
  unfold dComp2X at p
  cases q : t r m with
  | stuck => rw [q] at p; exact p
  | exc C fs m1 => rw [q] at p; exact p
  | ok x0 m1 =>
    obtain ⟨ds, gd⟩ := x0
    rw [q] at p
    intro J T st sa1 hJ Dd hD
    have pT : PostD X.K T ((dLc2G m1.length gd g c t1 g1 c1 b vs1 (wipeE r (own.map (·.2))) ds (m1 ++ [.lst []])).bind fun _ m2 => .ok (.loc m1.length) m2) Q (fun c d H => Fly X c d σ H) := Post.step st p
    have reW : RelE X.K T (wipeE r (own.map (·.2))) (wipe σ (own.map (·.2))) := (re.stp st).wipe _
    have stN : Stp T (T.tok Dd (.lst [])) := Stp.tok sa1 hD
    have saN : Sta X.K (T.tok Dd (.lst [])) (m1 ++ [.lst []]) := Sta.tok sa1 hD ⟨[], upd_same, .nil⟩
    have iN : (T.tok Dd (.lst [])).i[m1.length]? = some Dd := by
      show (T.i ++ [Dd])[m1.length]? = some Dd
      rw [← sa1.len, List.getElem?_append_right (Nat.le_refl _), Nat.sub_self]; rfl
    generalize m1.length = n0 at *
    refine ⟨fun i n H' => n = ds.length - i ∧ i ≤ ds.length ∧ ∃ (U : Wd) (m' : Mu), U.H = H' ∧ Stp (T.tok Dd (.lst [])) U ∧ Sta X.K U m' ∧
        PostD X.K T ((dLc2G n0 gd g c t1 g1 c1 b vs1 (wipeE r (own.map (·.2))) (ds.drop i) m').bind fun _ m2 => .ok (.loc n0) m2) Q (fun c d H => Fly X c d σ H),
      ⟨ds.length, by simp, Nat.zero_le _, T.tok Dd (.lst []), _, rfl, Stp.refl _, saN, pT⟩, ?_⟩
    rintro i n H' ⟨rfl, hi', U, m', rfl, stU, saU, pU⟩
    have stTU := stN.trans stU
    by_cases hlt : i < ds.length
    · rw [List.drop_eq_getElem_cons hlt] at pU
      unfold dLc2G at pU
      split at pU
      case isFalse => exact (show False from pU).elim
      rename_i hgd
      refine .inr ⟨((hJ U m' i stTU saU hgd).1 _ (List.getElem?_eq_getElem hlt)).1, fun H2 => i + 1 ≤ ds.length ∧ ∃ (U : Wd) (m' : Mu), U.H = H2 ∧ Stp (T.tok Dd (.lst [])) U ∧ Sta X.K U m' ∧
        PostD X.K T ((dLc2G n0 gd g c t1 g1 c1 b vs1 (wipeE r (own.map (·.2))) (ds.drop (i + 1)) m').bind fun _ m2 => .ok (.loc n0) m2) Q (fun c d H => Fly X c d σ H),
        fun H2 h2 => ⟨ds.length - (i + 1), by omega, rfl, h2.1, h2.2⟩, fun x H2 hy => ?_⟩
      obtain ⟨Y, rfl, stY, saY, rdY⟩ := ((hJ U m' i stTU saU hgd).1 _ (List.getElem?_eq_getElem hlt)).2 x H2 hy
      have stN2 := stU.trans stY
      have stT := stN.trans stN2
      cases qg : g ds[i] (wipeE r (own.map (·.2))) with
      | none => rw [qg] at pU; exact (show False from pU).elim
      | some e1 =>
        rw [qg] at pU
        dsimp only at pU
        intro s0 H0 C0 cl0 fp0
        refine hg s0 H0 C0 cl0 fp0 Y (wipeE r (own.map (·.2))) m' (wipe σ (own.map (·.2))) ds[i] x e1 _ saY (reW.stp stT) rdY qg ?_
        intro σ1 re1 bs
        refine ⟨?_, ?_⟩
        · rw [bs _ hsl]
          exact wipe_wipe _ _
        intro s0 H0 C0 cl0 fp0
        cases qc : c e1 m' with
        | stuck => rw [qc] at pU; exact (show False from pU).elim
        | exc C fs m2 => rw [qc] at pU; exact (show False from pU).elim
        | ok k m2 =>
          rw [qc] at pU
          refine ht s0 H0 C0 cl0 fp0 Y e1 m' σ1 _ saY re1 ?_
          rw [qc]
          intro k' Z stZ saZ hk
          cases (show k = k' from hk)
          have stNZ := stN2.trans stZ
          cases k with
          | false => exact iteF ⟨hlt, Z, m2, rfl, stNZ, saZ, pU⟩
          | true =>
            refine iteT ?_
            intro s0 H0 C0 cl0 fp0
            dsimp only at pU
            cases qt : t1 e1 m2 with
            | stuck => rw [qt] at pU; exact (show False from pU).elim
            | exc C fs m3 => rw [qt] at pU; exact (show False from pU).elim
            | ok x1 m3 =>
              obtain ⟨ds1, gd1⟩ := x1
              rw [qt] at pU
              dsimp only at pU
              refine hi1 s0 H0 C0 cl0 fp0 Z e1 m2 σ1 _ saZ (re1.stp stZ) ?_
              rw [qt]
              intro J1 T1 st1 sa2 hJ1
              have stN1 := stNZ.trans st1
              have reV : RelE X.K T1 (wipeE e1 vs1) (wipe σ1 vs1) := ((re1.stp stZ).stp st1).wipe _
              rw [resB_assoc] at pU
              refine ⟨fun j k H' => k = ds1.length - j ∧ j ≤ ds1.length ∧ ∃ (U : Wd) (m' : Mu), U.H = H' ∧ Stp T1 U ∧ Sta X.K U m' ∧
                  PostD X.K T ((dLc1G n0 gd1 g1 c1 b (wipeE e1 vs1) (ds1.drop j) m').bind fun _ m4 => (dLc2G n0 gd g c t1 g1 c1 b vs1 (wipeE r (own.map (·.2))) (ds.drop (i + 1)) m4).bind fun _ m2 => .ok (.loc n0) m2) Q (fun c d H => Fly X c d σ H),
                ⟨ds1.length, by simp, Nat.zero_le _, T1, m3, rfl, Stp.refl T1, sa2, pU⟩, ?_⟩
              rintro j k H'' ⟨rfl, hj', V0, n', rfl, stV0, saV0, pV⟩
              by_cases hlt1 : j < ds1.length
              · rw [List.drop_eq_getElem_cons hlt1] at pV
                unfold dLc1G at pV
                split at pV
                case isFalse => exact (show False from pV).elim
                rename_i hgd1
                refine .inr ⟨((hJ1 V0 n' j stV0 saV0 hgd1).1 _ (List.getElem?_eq_getElem hlt1)).1, fun H2 => j + 1 ≤ ds1.length ∧ ∃ (U : Wd) (m' : Mu), U.H = H2 ∧ Stp T1 U ∧ Sta X.K U m' ∧
                  PostD X.K T ((dLc1G n0 gd1 g1 c1 b (wipeE e1 vs1) (ds1.drop (j + 1)) m').bind fun _ m4 => (dLc2G n0 gd g c t1 g1 c1 b vs1 (wipeE r (own.map (·.2))) (ds.drop (i + 1)) m4).bind fun _ m2 => .ok (.loc n0) m2) Q (fun c d H => Fly X c d σ H),
                  fun H2 h2 => ⟨ds1.length - (j + 1), by omega, rfl, h2.1, h2.2⟩, fun x1 H3 hy1 => ?_⟩
                obtain ⟨Y1, rfl, stY1, saY1, rdY1⟩ := ((hJ1 V0 n' j stV0 saV0 hgd1).1 _ (List.getElem?_eq_getElem hlt1)).2 x1 H3 hy1
                have stTY := stV0.trans stY1
                cases qg1 : g1 ds1[j] (wipeE e1 vs1) with
                | none => rw [qg1] at pV; exact (show False from pV).elim
                | some e2 =>
                  rw [qg1] at pV
                  dsimp only at pV
                  intro s0 H0 C0 cl0 fp0
                  refine hg1 s0 H0 C0 cl0 fp0 Y1 (wipeE e1 vs1) n' (wipe σ1 vs1) ds1[j] x1 e2 _ saY1 (reV.stp stTY) rdY1 qg1 ?_
                  intro σ2 re2 bs2
                  refine ⟨?_, ?_⟩
                  · rw [bs2 _ hsl1]
                    exact wipe_wipe _ _
                  intro s0 H0 C0 cl0 fp0
                  cases qc1 : c1 e2 n' with
                  | stuck => rw [qc1] at pV; exact (show False from pV).elim
                  | exc C fs m2 => rw [qc1] at pV; exact (show False from pV).elim
                  | ok k1 n2 =>
                    rw [qc1] at pV
                    refine ht1 s0 H0 C0 cl0 fp0 Y1 e2 n' σ2 _ saY1 re2 ?_
                    rw [qc1]
                    intro k2 Z1 stZ1 saZ1 hk1
                    cases (show k1 = k2 from hk1)
                    cases k1 with
                    | false => exact iteF ⟨hlt1, Z1, n2, rfl, stTY.trans stZ1, saZ1, pV⟩
                    | true =>
                      refine iteT ?_
                      intro s0 H0 C0 cl0 fp0
                      dsimp only at pV
                      cases qb : b e2 n2 with
                      | stuck => rw [qb] at pV; exact (show False from pV).elim
                      | exc C fs m3 => rw [qb] at pV; exact (show False from pV).elim
                      | ok dx n3 =>
                        rw [qb] at pV
                        refine he s0 H0 C0 cl0 fp0 Z1 e2 n2 σ2 _ saZ1 (re2.stp stZ1) ?_
                        rw [qb]
                        intro vx V1 stV saV rx
                        dsimp only at pV
                        have stW := ((stTY.trans stZ1).trans stV)
                        have iV : V1.i[n0]? = some Dd := pre_get (stN1.trans stW).pre iN
                        split at pV
                        · rename_i acc hacc
                          obtain ⟨av, w1, w2⟩ := saV.ok n0 Dd _ iV hacc
                          split at pV
                          · rename_i hlen
                            obtain ⟨sp, ss⟩ := saV.put (o := .lst (av ++ [vx])) iV (q := .lst (acc ++ [dx])) ⟨av ++ [vx], upd_same, w2.append (.cons rx .nil)⟩
                            exact ⟨av, w1, by rw [← w2.len]; exact hlen, hlt1, V1.put Dd (.lst (av ++ [vx])), _, rfl, stW.trans sp, ss, pV⟩
                          · exact (show False from pV).elim
                        · exact (show False from pV).elim
              · have ej : j = ds1.length := by omega
                subst ej
                rw [List.drop_length] at pV
                unfold dLc1G at pV
                split at pV
                case isFalse => exact (show False from pV).elim
                rename_i hgd1
                exact .inl ⟨(hJ1 V0 n' _ stV0 saV0 hgd1).2 (Nat.le_refl _), hlt, V0, n', rfl, stN1.trans stV0, saV0, pV⟩
    · have e : i = ds.length := by omega
      subst e
      rw [List.drop_length] at pU
      unfold dLc2G at pU
      split at pU
      case isFalse => exact (show False from pU).elim
      rename_i hgd
      refine .inl ⟨(hJ U m' _ stTU saU hgd).2 (Nat.le_refl _), ?_⟩
      have pU : PostD X.K T (Res.ok (D.loc n0) m') Q (fun c d H => Fly X c d σ H) := pU
      exact pU (.ref Dd) U stTU saU (.loc (pre_get stU.pre iN))
theorem pd_lc2X (hi : PDIG X tg iter t) (hN : X.N.Nodup) (ok : BlkOk X.N X.env.scope scope own)
    (hg : ∀ s H C cl fp, PDG (Bk X scope s H C cl fp) tg g sl) (ht : ∀ s H C cl fp, PDTs (Bk X scope s H C cl fp) ifs c)
    (hi1 : ∀ s H C cl fp, PDIG (Bk X scope s H C cl fp) tg1 iter1 t1)
    (hg1 : ∀ s H C cl fp, PDG (Bk X scope s H C cl fp) tg1 g1 sl1) (ht1 : ∀ s H C cl fp, PDTs (Bk X scope s H C cl fp) ifs1 c1)
    (he : ∀ s H C cl fp, PDE (Bk X scope s H C cl fp) elt b)
    (hc : X.calm = true) (hv : ∀ i ∈ vs1, i ∈ own.map (·.2) := by decide) (hsl : ∀ i ∈ sl, i ∈ own.map (·.2) := by decide) (hsl1 : ∀ i ∈ sl1, i ∈ vs1 := by decide)
    (hs : ∀ x, foldedSetIterable iter X.env x = pure x := by intro _; rfl) (hs1 : ∀ env x, foldedSetIterable iter1 env x = pure x := by intro _ _; rfl) :
    PDE X (.ListComp elt [⟨tg, iter, ifs, 0⟩, ⟨tg1, iter1, ifs1, 0⟩] scope pos) (dComp2X t g c t1 g1 c1 b (own.map (·.2)) vs1) :=
  pd_of (pe_lc2 hc hN (mxI X tg iter) ok hv (mxBG X scope tg) (mxBT X scope ifs) (mxBI X scope tg1 iter1) (mxBG X scope tg1) (mxBT X scope ifs1) (mxBE X scope elt) hs hs1)
    fun S r m σ Q sa re p => lc2_goX hi hg ht hi1 hg1 ht1 he hsl hsl1 sa re p
theorem pds_setLc2X {i : Nat} {y : Str} {py : Pos} (hi : PDIG X tg iter t) (hN : X.N.Nodup) (ok : BlkOk X.N X.env.scope scope own)
    (hg : ∀ s H C cl fp, PDG (Bk X scope s H C cl fp) tg g sl) (ht : ∀ s H C cl fp, PDTs (Bk X scope s H C cl fp) ifs c)
    (hi1 : ∀ s H C cl fp, PDIG (Bk X scope s H C cl fp) tg1 iter1 t1)
    (hg1 : ∀ s H C cl fp, PDG (Bk X scope s H C cl fp) tg1 g1 sl1) (ht1 : ∀ s H C cl fp, PDTs (Bk X scope s H C cl fp) ifs1 c1)
    (he : ∀ s H C cl fp, PDE (Bk X scope s H C cl fp) elt b)
    (hc : X.calm = true) (hsw : swapsWith (.ListComp elt [⟨tg, iter, ifs, 0⟩, ⟨tg1, iter1, ifs1, 0⟩] scope pos) (some (.Name y py)) spos.line X.env = pure true) (hv : ∀ i ∈ vs1, i ∈ own.map (·.2) := by decide) (hsl : ∀ i ∈ sl, i ∈ own.map (·.2) := by decide) (hsl1 : ∀ i ∈ sl1, i ∈ vs1 := by decide)
    (hy : X.N[i]? = some y := by rfl) (hyl : X.env.scope.names.lookup y = some .local := by rfl) (hs : ∀ x, foldedSetIterable iter X.env x = pure x := by intro _; rfl) (hs1 : ∀ env x, foldedSetIterable iter1 env x = pure x := by intro _ _; rfl) :
    PDS X (.Assign [.Name y py] (.ListComp elt [⟨tg, iter, ifs, 0⟩, ⟨tg1, iter1, ifs1, 0⟩] scope pos) spos) (dSet i (dComp2X t g c t1 g1 c1 b (own.map (·.2)) vs1)) := by
  refine ps_of (ps_setLc2 hc hN hy hyl hsw (mxI X tg iter) ok hv (mxBG X scope tg) (mxBT X scope ifs) (mxBI X scope tg1 iter1) (mxBG X scope tg1) (mxBT X scope ifs1) (mxBE X scope elt) hs hs1) fun S r m σ N sa re p => ?_
  exact lc2_goX hi hg ht hi1 hg1 ht1 he hsl hsl1 sa re (PDE.stm re p fun d m1 v T st sa1 rd q => q _ T (Stp.refl T) sa1 ((re.stp st).set i rd))
end
end DL

namespace DL
open PySem PySem.Spec PyProof.Rows L2
variable [LamTab]
/-! ### name op= e, for whole numbers -/
def dAugI (i : Nat) (f : Int → Int → Int) (t : DE) : DS := fun e m => match e[i]? with
  | some (some (.int a)) => rsOf e (t e m) fun d m1 => match d with
    | .int b => .nx (e.set i (some (.int (f a b)))) m1
    | _ => .stuck
  | _ => .stuck
@[simp ↓] theorem dAugI_ap (i : Nat) (f : Int → Int → Int) (t : DE) (e : En) (m : Mu) : dAugI i f t e m = match e[i]? with
  | some (some (.int a)) => rsOf e (t e m) fun d m1 => match d with
    | .int b => .nx (e.set i (some (.int (f a b)))) m1
    | _ => .stuck
  | _ => .stuck := rfl
section
variable {X : Cx} {a : Expr} {ta : DE} {pos : Pos}
theorem pds_aug {i : Nat} {x : Str} {op : Operator} {f : Int → Int → Int} {pos' : Pos} (ho : PIp X op (ipI f)) (ha : PDE X a ta) (hN : X.N.Nodup) (hi : X.N[i]? = some x := by rfl) (hx : Loc X.env.scope x := by first | exact Or.inl rfl | exact Or.inr rfl)
    (hf : X.fn x = true ∨ X.env.scope.names.lookup x = some .local := by first | exact .inl rfl | exact .inr rfl | assumption) : PDS X (.AugAssign (.Name x pos') op a pos) (dAugI i f ta) :=
  ps_of (ps_aug hN hi hx (mxE X a) ho hf) fun S r m σ N sa re p => by
    unfold dAugI at p
    split at p
    · rename_i z e
      obtain ⟨v, h1, h2⟩ := re.2 i _ e
      cases h2
      refine ⟨_, h1, ha S r m σ _ sa re (PDE.stm re p fun d m1 v T st sa1 rd q => ?_)⟩
      split at q
      · cases rd with
        | int b => exact ⟨_, _, rfl, rfl, q _ T (Stp.refl T) sa1 ((re.stp st).set i (.int _))⟩
      · exact q.elim
    · exact p.elim
/-! ### a slice that is changed later: into the store -/
def dSlM (t : DE) (lo hi : DO) : DE := fun e m => (t e m).bind fun d m1 => (lo e m1).bind fun l m2 => (hi e m2).bind fun h m3 => match seqL m3 d with
  | some ds => .ok (.loc m3.length) (m3 ++ [.lst (cutD ds l h)])
  | none => .stuck
@[simp ↓] theorem dSlM_ap (t : DE) (lo hi : DO) (e : En) (m : Mu) : dSlM t lo hi e m = (t e m).bind fun d m1 => (lo e m1).bind fun l m2 => (hi e m2).bind fun h m3 => match seqL m3 d with
  | some ds => .ok (.loc m3.length) (m3 ++ [.lst (cutD ds l h)])
  | none => .stuck := rfl
theorem pd_slM {lo hi : Option Expr} {tl th : DO} {p2 : Pos} (ha : PDE X a ta) (hl : PDO X lo tl) (hh : PDO X hi th) : PDE X (.Subscript a (.Slice lo hi none p2) pos) (dSlM ta tl th) := by
  obtain ⟨ul, hl1, hl2⟩ := hl
  obtain ⟨uh, hh1, hh2⟩ := hh
  refine pd_of (pe_slice sl_list (mxE X a) hl1 hh1) fun S r m σ Q sa re p => ?_
  refine ha S r m σ _ sa re (Post.bindI p fun d m1 v T st sa1 rd q => ?_)
  refine hl2 T r m1 σ _ sa1 (re.stp st) (Post.bindI q fun l m2 l' U st2 sa2 rl q2 => ?_)
  have rl : l = l' := rl
  subst rl
  refine hh2 U r m2 σ _ sa2 ((re.stp st).stp st2) (Post.bindI q2 fun h m3 h' Y st3 sa3 rh q3 => ?_)
  have rh : h = h' := rh
  subst rh
  split at q3
  · rename_i ds e1
    obtain ⟨p, xs, rfl, h1, h2⟩ := seqL_ok sa3 ((rd.stp st2).stp st3) e1
    refine ⟨p, xs, rfl, h1, fun n hn => ?_⟩
    have st4 := Stp.tok sa3 (o := .lst (cutV xs l h)) hn
    refine q3 (.ref n) (Y.tok n (.lst (cutV xs l h))) st4 (sa3.tok hn (q := .lst (cutD ds l h)) ⟨_, upd_same, (cut_reps h2 l h).stp st4⟩) (.loc ?_)
    show (Y.i ++ [n])[m3.length]? = some n
    rw [← sa3.len, List.getElem?_append_right (Nat.le_refl _), Nat.sub_self]
    rfl
  · exact q3.elim
end
end DL

namespace DL
open PySem PySem.Spec PyProof.Rows L2
variable [LamTab]
/-! ### a built-in called with keywords -/
section
variable {X : Cx}
def OCK (X : Cx) (f : Value) (ks : List Str) (g : List D → List D → Mu → Res D) : Prop :=
  ∀ (pins : List (Addr × Obj)) (s : Shared) (σ : L2.St) (S : Wd) (m : Mu) (ds dz : List D) (xs zs : List V) (us ws : List Value) (Q : VK), Sta X.K S m → Reps X.K S.i S.F ds xs → Reps X.K S.i S.F dz zs → Vals xs us → Vals zs ws → Inv X pins σ S.H s →
    PostD X.K S (g ds dz m) Q (fun c d H => Fly X c d σ H) → wpAny (model X.prog X.w) X.A (call f us (ks.zip ws)) (EP X pins σ Q) X.xe s
def dFunBK (g : List D → List D → Mu → Res D) (t u : DA) : DE := fun e m => (t e m).bind fun ds m1 => (u e m1).bind fun zs m2 => g ds zs m2
@[simp ↓] theorem dFunBK_ap (g : List D → List D → Mu → Res D) (t u : DA) (e : En) (m : Mu) : dFunBK g t u e m = (t e m).bind fun ds m1 => (u e m1).bind fun zs m2 => g ds zs m2 := rfl
theorem pd_bck {x : Str} {p pos : Pos} {e : Expr} {es : List Expr} {kws : List Keyword} {t tk : DA} {id : String} {ks : List Str} {g : List D → List D → Mu → Res D} (ho : OCK X (.builtin id) ks g) (hm : X.mg x = none) (hv : bootBuiltins x = some (.builtin id)) (ha : PDA X (e :: es) t) (hkw : PDK X kws tk) (hg : Gl X x := by rfl) (hn : x ≠ "__name__" := by decide) (hdb : (x == ("__debug__" : Str)) = false := by decide)
    (he : backTo pos (starEach (e :: es) X.env) = (false, eval e X.env) :: backTo pos (starEach es X.env) := by rfl) (hpl : (backTo pos (starEach (e :: es) X.env)).any (·.1) = false := by rfl)
    (hall : (backToKw pos (keywordEach kws X.env)).all (·.1.isSome) = true := by rfl) (hnone : (backToKw pos (keywordEach kws X.env)).any (·.1.isNone) = false := by rfl) (hks : (backToKw pos (keywordEach kws X.env)).filterMap (·.1) = ks := by rfl) :
    PDE X (.Call (.Name x p) (e :: es) kws pos) (dFunBK g t tk) := by
  intro S r m σ Q sa re q pins s I
  refine wpAny_Call_Name_kw (ld_blt I hg hm hv ?_ hn hdb)
  refine PyProof.Rows.callWith_kw (thn (ha.run sa re q I pos) ?_) he hpl hall hnone
  rintro us s1 ⟨xs, ds, m1, T, st, sa1, rds, rv, I1, q1⟩
  refine thn (hkw.run sa1 (re.stp st) q1 I1 pos) ?_
  rintro ws s2 ⟨zs, dz, m2, U, st2, sa2, rdz, rz, I2, q2⟩
  rw [hks]
  exact ho pins s2 σ U m2 ds dz xs zs us ws Q sa2 (rds.stp st2) rdz rv rz I2 q2
/-! ### min(xs, default=d), xs whole numbers -/
def gMinDf : List D → List D → Mu → Res D := fun ds zs m => match ds, zs with
  | [d], [z] => match (seqL m d).bind toIs with
    | some [] => .ok z m
    | some (n :: ns) => .ok (.int (minI (n :: ns))) m
    | none => .stuck
  | _, _ => .stuck
@[simp] theorem gMinDf_ap (d z : D) (m : Mu) : gMinDf [d] [z] m = match (seqL m d).bind toIs with
    | some [] => .ok z m
    | some (n :: ns) => .ok (.int (minI (n :: ns))) m
    | none => .stuck := rfl
theorem foldl_min : ∀ (ns : List Int) (n : Int), ns.foldl min n ∈ n :: ns ∧ ∀ y ∈ n :: ns, ns.foldl min n ≤ y
  | [], n => by simp
  | a :: ns, n => by
    obtain ⟨h1, h2⟩ := foldl_min ns (min n a)
    rw [List.foldl_cons]
    refine ⟨?_, fun y hy => ?_⟩
    · rcases List.mem_cons.mp h1 with e | e
      · rw [e]
        rcases Int.le_total n a with z | z
        · rw [Int.min_eq_left z]; simp
        · rw [Int.min_eq_right z]; simp
      · simp [e]
    · have h3 := h2 (min n a) (by simp)
      have m1 := Int.min_le_left n a
      have m2 := Int.min_le_right n a
      rcases List.mem_cons.mp hy with e | hy
      · rw [e]; omega
      · rcases List.mem_cons.mp hy with e | hy
        · rw [e]; omega
        · exact h2 y (by simp [hy])
theorem foldl_minI (n : Int) (ns : List Int) : ns.foldl min n = minI (n :: ns) := by
  obtain ⟨h1, h2⟩ := foldl_min ns n
  obtain ⟨k1, k2⟩ := minI_ok (ns := n :: ns) (Nat.succ_pos _)
  have := h2 _ k1
  have := k2 _ h1
  omega
theorem alike_ints (ns : List Int) : PySem.W.AlikeAll (ns.map .int) := by
  constructor
  · intro x hx y hy
    obtain ⟨a, _, rfl⟩ := List.mem_map.mp hx
    obtain ⟨b, _, rfl⟩ := List.mem_map.mp hy
    rfl
  · intro x hx e
    obtain ⟨a, _, rfl⟩ := List.mem_map.mp hx
    cases e
theorem ock_minDf (hc : X.calm = true) (hu : X.A.units + 64 < cLine) : OCK X (.builtin "min") [Str.ofString "default"] gMinDf := by
  intro pins s σ S m ds dz xs zs us ws Q sa rs rz rv rw' I p
  unfold gMinDf at p
  split at p
  · rename_i d z
    cases q : seqL m d with
    | none => rw [q] at p; exact (show False from p).elim
    | some es =>
      rw [q] at p
      cases q2 : toIs es with
      | none => rw [show (some es).bind toIs = toIs es from rfl, q2] at p; exact (show False from p).elim
      | some bs =>
        rw [show (some es).bind toIs = toIs es from rfl, q2] at p
        obtain ⟨v, rfl, r⟩ := reps1 rs
        obtain ⟨zv, rfl, r2⟩ := reps1 rz
        obtain ⟨a, ys, rfl, h1, h2⟩ := seqL_ok sa r q
        have := toIs_ok h2 q2
        subst this
        obtain ⟨its, rvs, hl, _⟩ := I.list h1
        obtain rfl := Vals.ref1 rv
        obtain ⟨w1, rfl, e1⟩ := vals1 rw'
        refine PySem.W.min_list_default (xs := bs.map .int) (I.ok.hd hc) hl.isList (by simpa using rvs.ints.reads s.heap) (alike_ints bs) (by rw [depthAll_ints]; omega) (fun hb h' tk hk => ?_) fun y ys i v h' tk bs' hxs hv hr hk => ?_
        · obtain rfl : bs = [] := by simpa using hb
          exact ⟨zv, S.H, I.kept hk, e1, Post.ok p (Stp.refl S) sa r2⟩
        · cases bs with
          | nil => cases hxs
          | cons n ns =>
            rw [List.map_cons] at hxs
            cases hxs
            rw [PySem.W.minD_ints, foldl_minI] at hr
            cases hr with
            | int i t => exact ⟨.int _, S.H, I.kept hk, ⟨_, rfl⟩, Post.ok p (Stp.refl S) sa (.int _)⟩
  · exact p.elim
end
end DL

set_option maxHeartbeats 1000000
/-! zip of three lists -/
namespace DL
open PySem PySem.Spec PyProof.Rows L2 RZ
variable [LamTab]
/-- an iterator of a list, drawn from an index on, or at its end -/
theorem drawsL {prog : Program} {w : World} {A : Around} (hh : A.handled = none) (it l : Addr) (hne : l ≠ it) (items : Array Value) (i0 : Nat) :
    Draws prog w A it [it, l] (if items.size ≤ i0 then i0 else items.size) (fun i v => items[i]? = some v) (fun i h => h.IsListIter it l i ∧ h.IsList l items ∧ i0 ≤ i) where
  live := fun _ _ st => let ⟨o, ho, _⟩ := st.1; ⟨o, ho⟩
  frame := fun _ _ _ st hk => ⟨st.1.at fun o e => hk it (by simp) o e, st.2.1.at fun o e => hk l (by simp) o e, st.2.2⟩
  item := fun i s Q E hi st hQ => by
    have hi : i < items.size := by
      have := st.2.2
      split at hi <;> omega
    refine wpAny_nextOf_list_item st.1 st.2.1 (x := items[i]) (by simp [hi]) fun h' hit' hs' => ?_
    exact hQ _ h' s.toks (by simp [hi]) ⟨hit', st.2.1.extBut hs'.extBut hne, by omega⟩ hs'
  done := fun s Q E st hE => wpAny_nextOf_list_end hh st.1 st.2.1 (by simp; split <;> omega) hE
/-- the lists at a, b and c as they stand at each turn, the items in new tuples -/
def Itz3 (K : PySem.W.Frag) (a b c : Addr) : It :=
  ⟨fun i H => ∃ (xs ys zs : List V) (x y z : V), SqL K H a xs ∧ SqL K H b ys ∧ SqL K H c zs ∧ xs[i]? = some x ∧ ys[i]? = some y ∧ zs[i]? = some z,
    fun i H v H' => ∃ T x y z, v = .ref T ∧ H T = none ∧ H' = upd H T (.tup [x, y, z]) ∧ (∀ xs, SqL K H a xs → xs[i]? = some x) ∧ (∀ ys, SqL K H b ys → ys[i]? = some y) ∧ ∀ zs, SqL K H c zs → zs[i]? = some z,
    fun i H => ∃ xs ys zs : List V, SqL K H a xs ∧ SqL K H b ys ∧ SqL K H c zs ∧ (xs.length ≤ i ∨ ys.length ≤ i ∨ zs.length ≤ i)⟩
theorem turn_zip3 {P : Program} {w : World} {K : PySem.W.Frag} {elts : List Expr} {kk : Nat} {tpos : Pos} {a b c z TI TO i1 i2 i3 : Addr} (S : ZipSep3 z TI TO i1 i2 i3 [i1, a] [i2, b] [i3, c]) (n1 : a ≠ i1) (n2 : b ≠ i2) (n3 : c ≠ i3) :
    Turn P w K (.Tuple elts kk tpos) (Itz3 K a b c) [z, TI, TO, i1, i2, i3] z (fun i h => IsZip h z TI TO .none ∧ IsTupOf3 h TI (.ref i1) (.ref i2) (.ref i3) ∧ (∃ x y u, IsTupOf3 h TO x y u) ∧ h.IsListIter i1 a i ∧ h.IsListIter i2 b i ∧ h.IsListIter i3 c i) where
  mem := by simp
  obj := fun i h st e he => by
    obtain ⟨hz, hTI, ⟨x, y, u, hTO⟩, ⟨o1, e1, _, d1⟩, ⟨o2, e2, _, d2⟩, ⟨o3, e3, _, d3⟩⟩ := st
    have e' : e = z ∨ e = TI ∨ e = TO ∨ e = i1 ∨ e = i2 ∨ e = i3 := by simpa using he
    rcases e' with q | q | q | q | q | q
    · rw [q]; exact ⟨_, hz, fun v q => nomatch q⟩
    · rw [q]; exact ⟨_, hTI, fun v q => nomatch q⟩
    · rw [q]; exact ⟨_, hTO, fun v q => nomatch q⟩
    · rw [q]; exact ⟨o1, e1, fun v q => by rw [d1] at q; cases q⟩
    · rw [q]; exact ⟨o2, e2, fun v q => by rw [d2] at q; cases q⟩
    · rw [q]; exact ⟨o3, e3, fun v q => by rw [d3] at q; cases q⟩
  keep := fun i h h' st k => by
    obtain ⟨hz, hTI, ⟨x, y, u, hTO⟩, h1, h2, h3⟩ := st
    exact ⟨k z (by simp) _ hz, k TI (by simp) _ hTI, ⟨x, y, u, k TO (by simp) _ hTO⟩, h1.at fun o q => k i1 (by simp) o q, h2.at fun o q => k i2 (by simp) o q, h3.at fun o q => k i3 (by simp) o q⟩
  item := by
    intro X hP hw hK hc i pins s σ H E I hf st hg
    subst hP hw hK
    obtain ⟨hz, hTI, ⟨x0, y0, u0, hTO⟩, h1, h2, h3⟩ := st
    obtain ⟨xs, ys, zs, x, y, u, hqx, hqy, hqz, hx, hy, hu⟩ := hg
    obtain ⟨its, rv, p, _⟩ := I.list hqx
    obtain ⟨its2, rv2, p2, _⟩ := I.list hqy
    obtain ⟨its3, rv3, p3, _⟩ := I.list hqz
    obtain ⟨v1, hv1, rv1⟩ := rv.get hx
    obtain ⟨v2, hv2, rw2⟩ := rv2.get hy
    obtain ⟨v3, hv3, rw3⟩ := rv3.get hu
    have hh : X.A.in1.handled = none := I.ok.hd hc
    have s1 : ¬ its.toArray.size ≤ i := by obtain ⟨q, _⟩ := List.getElem?_eq_some_iff.mp hv1; simp; omega
    have s2 : ¬ its2.toArray.size ≤ i := by obtain ⟨q, _⟩ := List.getElem?_eq_some_iff.mp hv2; simp; omega
    have s3 : ¬ its3.toArray.size ≤ i := by obtain ⟨q, _⟩ := List.getElem?_eq_some_iff.mp hv3; simp; omega
    have hzl : z < s.heap.objs.size := Heap.lt_size hz
    refine wpAny_pyNext_zipD3_item (i := i) S (drawsL (prog := X.prog) (w := X.w) hh i1 a n1 its.toArray i) (drawsL hh i2 b n2 its2.toArray i) (drawsL hh i3 c n3 its3.toArray i) hz hTI hTO ⟨h1, p.isList, Nat.le_refl _⟩ ⟨h2, p2.isList, Nat.le_refl _⟩ ⟨h3, p3.isList, Nat.le_refl _⟩
      (by rw [if_neg s1]; omega) (by rw [if_neg s2]; omega) (by rw [if_neg s3]; omega) fun w1 w2 w3 h' tk q1 q2 q3 z' TO' st1 st2 st3 hT hsz hk => ?_
    have e1 : v1 = w1 := by have : its.toArray[i]? = some v1 := by simpa using hv1
                            rw [this] at q1; exact Option.some.inj q1
    have e2 : v2 = w2 := by have : its2.toArray[i]? = some v2 := by simpa using hv2
                            rw [this] at q2; exact Option.some.inj q2
    have e3 : v3 = w3 := by have : its3.toArray[i]? = some v3 := by simpa using hv3
                            rw [this] at q3; exact Option.some.inj q3
    subst e1 e2 e3
    refine ⟨_, rfl, wpAny_letOwnedTupleGo_zip (s := { s with heap := h', toks := tk }) z' fun h'' z'' sb => ?_⟩
    have hT2 : h''.get? s.heap.objs.size = some { cls := .type "tuple", data := .seq #[v1, v2, v3] } := (sb.2 _ (Nat.ne_of_gt hzl)).trans hT
    have new : ObjOk X.prog X.w (upd H s.heap.objs.size (.tup [x, y, u])) h'' s.heap.objs.size (.tup [x, y, u]) :=
      ⟨by show 3 ≤ sizeLine; decide, [v1, v2, v3], .cons rv1 (.cons rw2 (.cons rw3 .nil)), ⟨_, hT2, rfl, _, rfl⟩⟩
    have I1 : Inv X pins σ (upd H s.heap.objs.size (.tup [x, y, u])) { s with heap := h'', toks := tk } :=
      I.turnedNew (t' := tk) (ch := [z, TI, TO, i1, i2, i3]) (fun e o hb q => (sb.2 e (fun q' => hb (by simp [q']))).trans (hk e o (fun q' => hb (by simp [q'])) (fun q' => hb (by simp [q'])) (fun q' => hb (by simp [q'])) (fun q' => hb (by simp [q'])) (fun q' => hb (by simp [q'])) q)) hf (Nat.le_refl _) new
    refine ⟨.ref s.heap.objs.size, _, I1, rfl, ⟨_, x, y, u, rfl, I.hok.fresh (Nat.le_refl _), rfl, fun l hl => by rw [I.list_inj hl hqx]; exact hx, fun l hl => by rw [I.list_inj hl hqy]; exact hy, fun l hl => by rw [I.list_inj hl hqz]; exact hu⟩, ⟨z'', ?_, ⟨v1, v2, v3, ?_⟩, ?_, ?_, ?_⟩, fun e hem => ?_⟩
    · exact (sb.2 _ S.TIz).trans (hk _ _ S.TIz S.TITO S.TIi1 S.TIi2 S.TIi3 hTI)
    · exact (sb.2 _ S.TOz).trans TO'
    · exact st1.1.at fun o q => (sb.2 _ S.zi1.symm).trans q
    · exact st2.1.at fun o q => (sb.2 _ S.zi2.symm).trans q
    · exact st3.1.at fun o q => (sb.2 _ S.zi3.symm).trans q
    · have hlt : e < s.heap.objs.size := by
        have e' : e = z ∨ e = TI ∨ e = TO ∨ e = i1 ∨ e = i2 ∨ e = i3 := by simpa using hem
        rcases e' with q | q | q | q | q | q
        · rw [q]; exact hzl
        · rw [q]; exact Heap.lt_size hTI
        · rw [q]; exact Heap.lt_size hTO
        · rw [q]; obtain ⟨_, e1, _⟩ := h1; exact Heap.lt_size e1
        · rw [q]; obtain ⟨_, e2, _⟩ := h2; exact Heap.lt_size e2
        · rw [q]; obtain ⟨_, e3, _⟩ := h3; exact Heap.lt_size e3
      rw [upd_ne (Nat.ne_of_lt hlt)]
      exact (hf e hem).1
  done := by
    intro X hP hw hK hc i pins s σ H E I hf st hg
    subst hP hw hK
    obtain ⟨hz, hTI, ⟨x0, y0, u0, hTO⟩, h1, h2, h3⟩ := st
    obtain ⟨xs, ys, zs, hqx, hqy, hqz, hend⟩ := hg
    obtain ⟨its, rv, p, _⟩ := I.list hqx
    obtain ⟨its2, rv2, p2, _⟩ := I.list hqy
    obtain ⟨its3, rv3, p3, _⟩ := I.list hqz
    have l1 := rv.length
    have l2 := rv2.length
    have l3 := rv3.length
    have hh : X.A.in1.handled = none := I.ok.hd hc
    have k1 : its.toArray.size = its.length := by simp
    have k2 : its2.toArray.size = its2.length := by simp
    have k3 : its3.toArray.size = its3.length := by simp
    refine wpAny_pyNext_zipD3_end (i := i) S (drawsL (prog := X.prog) (w := X.w) hh i1 a n1 its.toArray i) (drawsL hh i2 b n2 its2.toArray i) (drawsL hh i3 c n3 its3.toArray i) hz hTI hTO ⟨h1, p.isList, Nat.le_refl _⟩ ⟨h2, p2.isList, Nat.le_refl _⟩ ⟨h3, p3.isList, Nat.le_refl _⟩
      (by split <;> omega) (by split <;> omega) (by split <;> omega) (by
        rcases hend with q | q | q
        · exact .inl (by rw [if_pos (by omega)])
        · exact .inr (.inl (by rw [if_pos (by omega)]))
        · exact .inr (.inr (by rw [if_pos (by omega)]))) fun h' tk hk => ⟨rfl, I.turnedL (t' := tk) (ch := [z, TI, TO, i1, i2, i3]) (fun e o hb q =>
      hk e o (fun q' => hb (by simp [q'])) (fun q' => hb (by simp [q'])) (fun q' => hb (by simp [q'])) (fun q' => hb (by simp [q'])) (fun q' => hb (by simp [q'])) q) hf⟩
  self := fun A i s Q E st h => wpAny_pyIter_zip st.1 h
def iZip3 (K : PySem.W.Frag) (ta : TA) : TI := fun σ H R => ta σ H fun vs H1 => ∃ a b c xs ys zs, vs = [.ref a, .ref b, .ref c] ∧ SqL K H1 a xs ∧ SqL K H1 b ys ∧ SqL K H1 c zs ∧ R (Itz3 K a b c) H1
theorem pi_zip3 {X : Cx} {e e2 e3 : Expr} {ta : TA} {p pos tpos : Pos} {elts : List Expr} {kk : Nat} (hg : Gl X "zip") (hm : X.mg "zip" = none) (ha : PA X [e, e2, e3] ta)
    (hs : starEach [e, e2, e3] X.env = (false, eval e X.env) :: starEach [e2, e3] X.env := by rfl) (hpl : (backTo pos (starEach [e2, e3] X.env)).any (·.1) = false := by rfl) :
    PI X (.Tuple elts kk tpos) (.Call (.Name "zip" p) [e, e2, e3] [] pos) (iZip3 X.K ta) := by
  refine ⟨fun pins s σ H R I h => ?_⟩
  refine Call_ (ld_blt I hg hm PyProof.Rows.boot_zip (PyProof.Rows.callWith_type1 (thn (ha.run pos pins s σ H _ I h) fun us s1 ⟨vs, H1, I1, r1, q1⟩ => ?_) hs hpl))
  obtain ⟨a, b, c, xs, ys, zs, ex, hqx, hqy, hqz, q⟩ := q1
  subst ex
  cases r1 with
  | cons r rr =>
  cases rr with
  | cons r' rr =>
  cases rr with
  | cons r'' rr =>
  cases rr
  cases r
  cases r'
  cases r''
  have fresh6 : ∀ e, e ∈ [s1.heap.objs.size + 5, s1.heap.objs.size + 3, s1.heap.objs.size + 4, s1.heap.objs.size, s1.heap.objs.size + 1, s1.heap.objs.size + 2] → FpOk X pins H1 e := fun e hem => by
    have e' : e = s1.heap.objs.size + 5 ∨ e = s1.heap.objs.size + 3 ∨ e = s1.heap.objs.size + 4 ∨ e = s1.heap.objs.size ∨ e = s1.heap.objs.size + 1 ∨ e = s1.heap.objs.size + 2 := by simpa using hem
    have hle : s1.heap.objs.size ≤ e := by
      rcases e' with z | z | z | z | z | z
      · rw [z]; exact Nat.le_add_right _ _
      · rw [z]; exact Nat.le_add_right _ _
      · rw [z]; exact Nat.le_add_right _ _
      · rw [z]; exact Nat.le_refl _
      · rw [z]; exact Nat.le_add_right _ _
      · rw [z]; exact Nat.le_add_right _ _
    exact I1.fpOk hle (I1.hok.fresh hle)
  obtain ⟨its, rv, p1, _⟩ := I1.list hqx
  obtain ⟨its2, rv2, p2, _⟩ := I1.list hqy
  obtain ⟨its3, rv3, p3, _⟩ := I1.list hqz
  have A1 := p1.lt
  have A2 := p2.lt
  have A3 := p3.lt
  refine zip_begins3 (begins_list a its.toArray) (begins_list b its2.toArray) (begins_list c its3.toArray) p1.isList p2.isList p3.isList fun h' hz hTI hTO h1 h2 h3 hsz hk => wpAny_pyIter_zip hz ?_
  have I2 : Inv X pins σ H1 { s1 with heap := h' } := I1.kept (t' := s1.toks) hk
  have sep := zip_sep3 (N := s1.heap.objs.size) (fp1 := [a]) (fp2 := [b]) (fp3 := [c]) (fun b hb => by rw [List.mem_singleton.mp hb]; exact A1) (fun b hb => by rw [List.mem_singleton.mp hb]; exact A2) (fun b hb => by rw [List.mem_singleton.mp hb]; exact A3)
  exact ⟨s1.heap.objs.size + 5, [s1.heap.objs.size + 5, s1.heap.objs.size + 3, s1.heap.objs.size + 4, s1.heap.objs.size, s1.heap.objs.size + 1, s1.heap.objs.size + 2], _, _, H1, rfl, I2,
    turn_zip3 sep (Nat.ne_of_lt A1) (Nat.ne_of_lt (Nat.lt_succ_of_lt A2)) (Nat.ne_of_lt (Nat.lt_succ_of_lt (Nat.lt_succ_of_lt A3))), ⟨hz, hTI, ⟨_, _, _, hTO⟩, ⟨_, h1, rfl, rfl⟩, ⟨_, h2, rfl, rfl⟩, ⟨_, h3, rfl, rfl⟩⟩, fresh6, q⟩
/-- over zip(xs, ys, zs) -/
def dItZ3 (t : DA) : DA := fun e m => (t e m).bind fun ds m1 => match ds with
  | [.lst xs, .lst ys, .lst zs] => .ok ((xs.zip (ys.zip zs)).map fun p => .tup [p.1, p.2.1, p.2.2]) m1
  | _ => .stuck
@[simp ↓] theorem dItZ3_ap (t : DA) (e : En) (m : Mu) : dItZ3 t e m = (t e m).bind fun ds m1 => match ds with
  | [.lst xs, .lst ys, .lst zs] => .ok ((xs.zip (ys.zip zs)).map fun p => .tup [p.1, p.2.1, p.2.2]) m1
  | _ => .stuck := rfl
theorem zip3_get {xs ys zs : List D} {i : Nat} {d : D} (h : ((xs.zip (ys.zip zs)).map fun p => D.tup [p.1, p.2.1, p.2.2])[i]? = some d) : ∃ x y z, xs[i]? = some x ∧ ys[i]? = some y ∧ zs[i]? = some z ∧ d = .tup [x, y, z] := by
  rw [List.getElem?_map] at h
  cases q : (xs.zip (ys.zip zs))[i]? with
  | none => rw [q] at h; cases h
  | some p =>
    rw [q] at h
    cases h
    obtain ⟨x, y, z⟩ := p
    have q1 := List.getElem?_zip_eq_some.mp q
    have q2 := List.getElem?_zip_eq_some.mp q1.2
    exact ⟨x, y, z, q1.1, q2.1, q2.2, rfl⟩
section
variable {X : Cx} {a b c : Expr} {t : DA} {p pos tpos : Pos}
theorem pdi_zip3 {elts : List Expr} {kk : Nat} (hm : X.mg "zip" = none) (ha : PDA X [a, b, c] t) (hg : Gl X "zip" := by rfl) (hs : starEach [a, b, c] X.env = (false, eval a X.env) :: starEach [b, c] X.env := by rfl) (hpl : (backTo pos (starEach [b, c] X.env)).any (·.1) = false := by rfl) : PDI X (.Tuple elts kk tpos) (.Call (.Name "zip" p) [a, b, c] [] pos) (dItZ3 t) := by
  refine pdi_of (pi_zip3 hg hm (mxA X [a, b, c]) hs hpl) fun S r m σ R sa re p => ?_
  refine ha S r m σ _ sa re (PostI.bindI p fun d m1 v T st sa1 rd q => ?_)
  split at q
  · cases rd with
    | cons w1 rr =>
    cases rr with
    | cons w2 rr =>
    cases rr with
    | cons w3 rr =>
    cases rr
    obtain ⟨a, xs, rfl, hr, k⟩ := frozen sa1 w1
    obtain ⟨b, ys, rfl, hr2, k2⟩ := frozen sa1 w2
    obtain ⟨c, zs, rfl, hr3, k3⟩ := frozen sa1 w3
    refine ⟨a, b, c, xs, ys, zs, rfl, (k T m1 (Stp.refl T) sa1).1, (k2 T m1 (Stp.refl T) sa1).1, (k3 T m1 (Stp.refl T) sa1).1, q _ T (Stp.refl T) sa1 fun U m' i st' sa' => ⟨fun d hd => ?_, fun hl => ⟨xs, ys, zs, (k U m' st' sa').1, (k2 U m' st' sa').1, (k3 U m' st' sa').1, ?_⟩⟩⟩
    · obtain ⟨x, y, z, hx, hy, hz, rfl⟩ := zip3_get hd
      obtain ⟨v, hv, rv⟩ := (k U m' st' sa').2.get hx
      obtain ⟨v2, hv2, rv2⟩ := (k2 U m' st' sa').2.get hy
      obtain ⟨v3, hv3, rv3⟩ := (k3 U m' st' sa').2.get hz
      refine ⟨⟨xs, ys, zs, v, v2, v3, (k U m' st' sa').1, (k2 U m' st' sa').1, (k3 U m' st' sa').1, hv, hv2, hv3⟩, fun y H' hy => ?_⟩
      obtain ⟨n, z, z2, z3, rfl, hn, rfl, h1, h2, h3⟩ := hy
      have h1' := h1 xs (k U m' st' sa').1
      have h2' := h2 ys (k2 U m' st' sa').1
      have h3' := h3 zs (k3 U m' st' sa').1
      rw [hv] at h1'; cases h1'
      rw [hv2] at h2'; cases h2'
      rw [hv3] at h3'; cases h3'
      have st2 := Stp.new sa' (o := .tup [v, v2, v3]) hn
      exact ⟨U.new n _, rfl, st2, sa'.new hn, .tup (.inl (.inl upd_same)) (.cons (rv.stp st2) (.cons (rv2.stp st2) (.cons (rv3.stp st2) .nil)))⟩
    · rw [List.length_map, List.length_zip, List.length_zip, hr.len, hr2.len, hr3.len] at hl
      omega
  · exact q.elim
/-- C.m(), m a classmethod, without arguments -/
theorem pd_cmeth0 {x mn : Str} {p2 apos cpos : Pos} {k : Nat} {G : DFn} {pl : Sem Bool} (F : CMt X.prog X.w X.K X.mg X.base k x mn G) (hr : Room k X.A)
    (hg : Gl X x := by rfl) (hdb : (x == ("__debug__" : Str)) = false := by decide)
    (ht : eval (.Call (.Attribute (.Name x p2) mn apos) [] [] cpos) X.env = (do
      let ov ← eval (.Name x p2) X.env
      standAt apos.atName
      let (f, first) ← holding [ov] (getMethod ov mn pl)
      callWith cpos f first (backTo cpos (starEach [] X.env)) (backToKw cpos (keywordEach [] X.env))) := by rfl) :
    PDE X (.Call (.Attribute (.Name x p2) mn apos) [] [] cpos) (dFun G dNil) := by
  obtain ⟨C, pp, g, G0, hm, r1, c1, hf, rfl⟩ := F.ex
  intro S r m σ Q sa re q pins s I
  refine PySem.W.methodCall_KW (pl := pl) (ld_glob I hg hm ?_ hdb) ht
  refine ClX.getmethcm_ok I r1 c1 fun s2 I2 => ?_
  exact PySem.W.callWith_M0 (K := X.K) (first := []) ⟨ClX.pin_at I2, I2.kIn⟩ c1.fi (run_cmS hf hr I2 sa .nil .nil q)
end
end DL

set_option maxHeartbeats 1000000
/-! list(zip(xs, ys)) -/
namespace DL
open PySem PySem.Spec PyProof.Rows L2 RZ
variable [LamTab]
theorem zip_nolen : typeLookup (.type "zip") "__len__" = pure none := am_miss_of_fast (by decide +kernel)
theorem zip_nohint : typeLookup (.type "zip") "__length_hint__" = pure none := am_miss_of_fast (by decide +kernel)
/-- what a list has got from a zip: S the list, ts its pairs; N: what is below stays -/
structure ZE (S N : Addr) (xs ys : Array Value) (h0 : Heap) (ts : List Addr) (h : Heap) : Prop where
  lst : ∃ c, h.get? S = some { cls := .type "list", dict := none, data := .seq (ts.map Value.ref).toArray c, slots := #[] }
  tps : ∀ (j : Nat) T, ts[j]? = some T → ∃ x y, xs[j]? = some x ∧ ys[j]? = some y ∧ IsPair h T x y ∧ N ≤ T ∧ T ≠ S
  nd : ts.Nodup
  keep : ∀ b o, b < N → h0.get? b = some o → h.get? b = some o
/-- .. and the zip stands ready -/
structure ZS (z TI TO i1 i2 l1 l2 S N : Addr) (xs ys : Array Value) (h0 : Heap) (i : Nat) (ts : List Addr) (h : Heap) : Prop where
  e : ZE S N xs ys h0 ts h
  len : ts.length = i
  ti : IsPair h TI (.ref i1) (.ref i2)
  j1 : h.IsListIter i1 l1 i
  j2 : h.IsListIter i2 l2 i
  m1 : h.IsList l1 xs
  m2 : h.IsList l2 ys
  zp : (IsZip h z TI TO .none ∧ (∃ a b, IsPair h TO a b)) ∨ ∃ T f oT, IsZipHeld h z TI TO T f ∧ h.get? T = some oT ∧ T ≠ z ∧ T ≠ i1 ∧ T ≠ i2 ∧ T ≠ S
  tsn : ∀ T ∈ ts, T ≠ z ∧ T ≠ TO ∧ T ≠ i1 ∧ T ≠ i2
section
variable {prog : Program} {w : World} {A : Around}
theorem zip_push {z TI TO i1 i2 l1 l2 S N : Addr} {xs ys : Array Value} {h0 h h' : Heap} {i : Nat} {ts : List Addr} {x y : Value} (D : ZipApart z TI TO i1 i2 l1 l2)
    (nS : S ≠ z ∧ S ≠ TI ∧ S ≠ TO ∧ S ≠ i1 ∧ S ≠ i2 ∧ S ≠ l1 ∧ S ≠ l2) (nN : N ≤ z ∧ N ≤ TO ∧ N ≤ i1 ∧ N ≤ i2 ∧ N ≤ S) (st : ZS z TI TO i1 i2 l1 l2 S N xs ys h0 i ts h)
    (ex : xs[i]? = some x) (ey : ys[i]? = some y) (a3 : h'.IsListIter i1 l1 (i + 1)) (a4 : h'.IsListIter i2 l2 (i + 1)) (a5 : IsPair h' h.objs.size x y) (zz : ∃ T f oT, IsZipHeld h' z TI TO T f ∧ h'.get? T = some oT ∧ T ≠ z ∧ T ≠ i1 ∧ T ≠ i2 ∧ T ≠ S)
    (hk : ∀ c o, c ≠ z → c ≠ TO → c ≠ i1 → c ≠ i2 → h.get? c = some o → h'.get? c = some o) (hTO : TO < h.objs.size) (hz : z < h.objs.size) :
    ZS z TI TO i1 i2 l1 l2 S N xs ys h0 (i + 1) (ts ++ [h.objs.size]) (h'.update S (Obj.mapSeq (·.push (Value.ref h.objs.size)))) := by
  obtain ⟨nz, nTI, nTO, n1, n2, nl1, nl2⟩ := nS
  obtain ⟨⟨⟨c, hS⟩, tps, nd, keep⟩, hlen, hTI, h1, h2, hl1, hl2, hzp, tsn⟩ := st
  have hS' := hk S _ nz nTO n1 n2 hS
  have up : ∀ b o, b ≠ S → h'.get? b = some o → (h'.update S (Obj.mapSeq (·.push (Value.ref h.objs.size)))).get? b = some o := fun b o hb e => (Heap.get?_update_other _ _ (Ne.symm hb)).trans e
  have hSl : S < h.objs.size := Heap.lt_size hS
  have ltT : ∀ T ∈ ts, T < h.objs.size := fun T hT => by
    obtain ⟨j, hj⟩ := List.mem_iff_getElem?.mp hT
    obtain ⟨_, _, _, _, hp, _⟩ := tps j T hj
    exact Heap.lt_size hp
  have hN : N ≤ h.objs.size := Nat.le_trans nN.1 (Nat.le_of_lt hz)
  have li1 : i1 < h.objs.size := by obtain ⟨_, q, _⟩ := h1; exact Heap.lt_size q
  have li2 : i2 < h.objs.size := by obtain ⟨_, q, _⟩ := h2; exact Heap.lt_size q
  have q0 : ∃ c', (h'.update S (Obj.mapSeq (·.push (Value.ref h.objs.size)))).get? S = some { cls := .type "list", dict := none, data := .seq ((ts.map Value.ref).toArray.push (Value.ref h.objs.size)) c', slots := #[] } := ⟨_, Heap.get?_update_self (Obj.mapSeq (·.push (Value.ref h.objs.size))) hS' rfl⟩
  have e0 : ((ts ++ [h.objs.size]).map Value.ref).toArray = (ts.map Value.ref).toArray.push (Value.ref h.objs.size) := by simp
  rw [← e0] at q0
  refine ⟨⟨q0, fun j T hj => ?_, ?_, fun b o hb e => ?_⟩, by simp [hlen], up _ _ (Ne.symm nTI) (hk _ _ D.TIz D.TITO D.TIi1 D.TIi2 hTI), a3.at fun o e => up _ o (Ne.symm n1) e, a4.at fun o e => up _ o (Ne.symm n2) e,
    hl1.at fun o e => up _ o (Ne.symm nl1) (hk _ o D.l1z D.l1TO D.l1i1 D.l1i2 e), hl2.at fun o e => up _ o (Ne.symm nl2) (hk _ o D.l2z D.l2TO D.l2i1 D.l2i2 e), .inr ?_, fun T hT => ?_⟩
  · by_cases hjl : j < ts.length
    · rw [List.getElem?_append_left hjl] at hj
      obtain ⟨x', y', e1, e2, hp, hN', hne⟩ := tps j T hj
      obtain ⟨t1, t2, t3, t4⟩ := tsn T (List.mem_of_getElem? hj)
      exact ⟨x', y', e1, e2, up _ _ hne (hk _ _ t1 t2 t3 t4 hp), hN', hne⟩
    · have hje : j = ts.length := by
        have := (List.getElem?_eq_some_iff.mp hj).1
        simp at this; omega
      subst hje
      rw [List.getElem?_append_right (Nat.le_refl _), Nat.sub_self] at hj
      cases hj
      rw [hlen]
      exact ⟨x, y, ex, ey, up _ _ (Nat.ne_of_gt hSl) a5, hN, Nat.ne_of_gt hSl⟩
  · rw [List.nodup_append]
    refine ⟨nd, by simp, fun a ha b hb => ?_⟩
    have : b = h.objs.size := by simpa using hb
    subst this
    exact Nat.ne_of_lt (ltT a ha)
  · have e1 := keep b o hb e
    exact up b o (Nat.ne_of_lt (Nat.lt_of_lt_of_le hb nN.2.2.2.2)) (hk b o (Nat.ne_of_lt (Nat.lt_of_lt_of_le hb nN.1)) (Nat.ne_of_lt (Nat.lt_of_lt_of_le hb nN.2.1)) (Nat.ne_of_lt (Nat.lt_of_lt_of_le hb nN.2.2.1)) (Nat.ne_of_lt (Nat.lt_of_lt_of_le hb nN.2.2.2.1)) e1)
  · obtain ⟨T, f, oT, r1, r2, r3, r4, r5, r6⟩ := zz
    exact ⟨T, f, oT, up _ _ (Ne.symm nz) r1, up _ _ r6 r2, r3, r4, r5, r6⟩
  · rcases List.mem_append.mp hT with hT | hT
    · exact tsn T hT
    · have : T = h.objs.size := by simpa using hT
      subst this
      exact ⟨Nat.ne_of_gt hz, Nat.ne_of_gt hTO, Nat.ne_of_gt li1, Nat.ne_of_gt li2⟩
theorem zip_loop {z TI TO i1 i2 l1 l2 S N : Addr} {xs ys : Array Value} {h0 : Heap} {R : Result → Shared → Prop} {res : Value} (hh : A.handled = none) (D : ZipApart z TI TO i1 i2 l1 l2)
    (nS : S ≠ z ∧ S ≠ TI ∧ S ≠ TO ∧ S ≠ i1 ∧ S ≠ i2 ∧ S ≠ l1 ∧ S ≠ l2) (nN : N ≤ z ∧ N ≤ TO ∧ N ≤ i1 ∧ N ≤ i2 ∧ N ≤ S) (hn : min xs.size ys.size ≤ sizeLine) :
    ∀ (k i : Nat) (s : Shared) (ts : List Addr), min xs.size ys.size - i = k → i ≤ min xs.size ys.size → ZS z TI TO i1 i2 l1 l2 S N xs ys h0 i ts s.heap → TO < s.heap.objs.size →
    (∀ h' ts', ts'.length = min xs.size ys.size → ZE S N xs ys h0 ts' h' → R (.ok (.ret res)) { s with heap := h' }) →
    codeAny (model prog w) A (.builtin "list.extend.loop" ⟨[.ref S, .ref z, res], []⟩) R s := by
  have hh1 : A.in1.handled = none := hh
  intro k
  induction k with
  | zero =>
    intro i s ts hk hi st hTOl hR
    have hin : i = min xs.size ys.size := by omega
    have st' := st
    obtain ⟨⟨⟨c, hS⟩, tps, nd, keep⟩, hlen, hTI, h1, h2, hl1, hl2, hzp, tsn⟩ := st
    obtain ⟨nz, nTI, nTO, n1, n2, nl1, nl2⟩ := nS
    have hend : xs[i]? = none ∨ ys[i]? = none := by
      rcases Nat.le_total xs.size ys.size with h | h
      · exact .inl (Array.getElem?_eq_none (by omega))
      · exact .inr (Array.getElem?_eq_none (by omega))
    refine codeAny_builtin F.entry_extend_loop ?_
    rw [Around.under_plainId F.plain_extend_loop _]
    show wpAny _ A.in1 (pyNext (.ref z) >>= _) _ _ s
    have fin : ∀ h' : Heap, (∀ c o, c ≠ z → c ≠ TO → c ≠ i1 → c ≠ i2 → s.heap.get? c = some o → h'.get? c = some o) → ZE S N xs ys h0 ts h' := fun h' hk' =>
      ⟨⟨c, hk' _ _ nz nTO n1 n2 hS⟩, fun j T hj => by
        obtain ⟨x', y', e1, e2, hp, hN', hne⟩ := tps j T hj
        obtain ⟨t1, t2, t3, t4⟩ := tsn T (List.mem_of_getElem? hj)
        exact ⟨x', y', e1, e2, hk' _ _ t1 t2 t3 t4 hp, hN', hne⟩, nd, fun b o hb e =>
        hk' b o (Nat.ne_of_lt (Nat.lt_of_lt_of_le hb nN.1)) (Nat.ne_of_lt (Nat.lt_of_lt_of_le hb nN.2.1)) (Nat.ne_of_lt (Nat.lt_of_lt_of_le hb nN.2.2.1)) (Nat.ne_of_lt (Nat.lt_of_lt_of_le hb nN.2.2.2.1)) (keep b o hb e)⟩
    rcases hzp with ⟨hz, a, b, hTO⟩ | ⟨T, f, oT, hz, hT, r1, r2, r3, r4⟩
    · exact wpAny_bind (wpAny_pyNext_zip_end hh1 D hz hTI hTO h1 h2 hl1 hl2 hend fun h' hk' => wpAny_pure (hR h' ts (by omega) (fin h' hk')))
    · exact wpAny_bind (wpAny_pyNext_zip_end_held hh1 D hz hT hTI h1 h2 hl1 hl2 hend fun h' hk' => wpAny_pure (hR h' ts (by omega) (fin h' fun c o a1 _ a2 a3 e => hk' c o a1 a2 a3 e)))
  | succ k ih =>
    intro i s ts hk hi st hTOl hR
    have hix : i < xs.size := by omega
    have hiy : i < ys.size := by omega
    have ex := Array.getElem?_eq_getElem hix
    have ey := Array.getElem?_eq_getElem hiy
    have st' := st
    obtain ⟨⟨⟨c, hS⟩, tps, nd, keep⟩, hlen, hTI, h1, h2, hl1, hl2, hzp, tsn⟩ := st
    have nS' := nS
    obtain ⟨nz, nTI, nTO, n1, n2, nl1, nl2⟩ := nS
    have lt : ∀ {c o}, s.heap.get? c = some o → s.heap.objs.size ≠ c := fun e => Nat.ne_of_gt (Heap.lt_size e)
    have m1 : s.heap.objs.size ≠ i1 := let ⟨_, e, _⟩ := h1; lt e
    have m2 : s.heap.objs.size ≠ i2 := let ⟨_, e, _⟩ := h2; lt e
    have sz : (ts.map Value.ref).toArray.size = i := by simp [hlen]
    refine codeAny_builtin F.entry_extend_loop ?_
    rw [Around.under_plainId F.plain_extend_loop _]
    show wpAny _ A.in1 (pyNext (.ref z) >>= _) _ _ s
    have go : ∀ h' : Heap, h'.IsListIter i1 l1 (i + 1) → h'.IsListIter i2 l2 (i + 1) → IsPair h' s.heap.objs.size xs[i] ys[i] → (∃ T f oT, IsZipHeld h' z TI TO T f ∧ h'.get? T = some oT ∧ T ≠ z ∧ T ≠ i1 ∧ T ≠ i2 ∧ T ≠ S) →
        (∀ c o, c ≠ z → c ≠ TO → c ≠ i1 → c ≠ i2 → s.heap.get? c = some o → h'.get? c = some o) → z < s.heap.objs.size → h'.objs.size = s.heap.objs.size + 1 →
        wpAny (model prog w) A.in1 (updateSeq S (·.push (Value.ref s.heap.objs.size)) >>= fun _ => again (.builtin "list.extend.loop" ⟨[.ref S, .ref z, res], []⟩)) (fun fin s' => match fin with | .done f => R (.ok f) s' | .again c' => c'.quiet = true ∧ codeAny (model prog w) A c' R s') (fun e s' => R (.error e) s') { s with heap := h' } := fun h' a3 a4 a5 zz hk' hzl hsz => by
      have hS' := hk' S _ nz nTO n1 n2 hS
      refine wpAny_bind (wpAny_updateSeq hS' rfl (wpAny_pure ⟨plainId_quiet F.plain_extend_loop _, ih (i + 1) _ (ts ++ [s.heap.objs.size]) (by omega) (by omega) (zip_push D nS' nN st' ex ey a3 a4 a5 zz hk' hTOl hzl) ?_ fun h'' ts' hl' ze => hR h'' ts' hl' ze⟩) (by rw [sz]; omega) (by show ((ts.map Value.ref).toArray.push _).size ≤ sizeLine + 1; rw [Array.size_push, sz]; omega))
      show TO < (h'.update S _).objs.size
      rw [Heap.size_update, hsz]
      exact Nat.lt_succ_of_lt hTOl
    rcases hzp with ⟨hz, a, b, hTO⟩ | ⟨T, f, oT, hz, hT, r1, r2, r3, r4⟩
    · refine wpAny_bind (wpAny_pyNext_zip_item D hz hTI hTO h1 h2 hl1 hl2 ex ey fun h' a1 a2 a3 a4 a5 a6 hk' => ?_)
      exact go h' a3 a4 a5 ⟨s.heap.objs.size, false, _, a1, a5, lt hz, m1, m2, Nat.ne_of_gt (Heap.lt_size hS)⟩ hk' (Heap.lt_size hz) a6
    · refine wpAny_bind (wpAny_pyNext_zip_item_held D hz hT hTI h1 h2 hl1 hl2 ex ey fun h' a1 a3 a4 a5 a6 hk' => ?_)
      exact go h' a3 a4 a5 ⟨T, true, oT, a1, hk' _ _ r1 r2 r3 hT, r1, r2, r3, r4⟩ (fun c o b1 _ b2 b3 e => hk' c o b1 b2 b3 e) (Heap.lt_size hz) a6
theorem list_init_zip {s : Shared} {z TI TO i1 i2 l1 l2 S N : Addr} {xs ys : Array Value} {h0 : Heap} {R : Result → Shared → Prop} (hh : A.handled = none) (D : ZipApart z TI TO i1 i2 l1 l2)
    (nS : S ≠ z ∧ S ≠ TI ∧ S ≠ TO ∧ S ≠ i1 ∧ S ≠ i2 ∧ S ≠ l1 ∧ S ≠ l2) (nN : N ≤ z ∧ N ≤ TO ∧ N ≤ i1 ∧ N ≤ i2 ∧ N ≤ S) (hn : min xs.size ys.size ≤ sizeLine) (hS : s.heap.get? S = some { cls := .type "list", data := .seq #[] })
    (hz : IsZip s.heap z TI TO .none) (hTI : IsPair s.heap TI (.ref i1) (.ref i2)) (hTO : ∃ a b, IsPair s.heap TO a b)
    (h1 : s.heap.IsListIter i1 l1 0) (h2 : s.heap.IsListIter i2 l2 0) (hl1 : s.heap.IsList l1 xs) (hl2 : s.heap.IsList l2 ys) (hk : ∀ b o, b < N → h0.get? b = some o → s.heap.get? b = some o)
    (hR : ∀ h' ts, ts.length = min xs.size ys.size → ZE S N xs ys h0 ts h' → R (.ok (.ret .none)) { s with heap := h' }) :
    wpAny (model prog w) A.in1 (Builtin.«list.__init__» ⟨[.ref S, .ref z], []⟩)
      (fun fin s' => match fin with | .done f => R (.ok f) s' | .again c' => c'.quiet = true ∧ codeAny (model prog w) A c' R s') (fun e s' => R (.error e) s') s := by
  obtain ⟨a0, b0, hTO⟩ := hTO
  have lTO : TO < s.heap.objs.size := Heap.lt_size hTO
  obtain ⟨nz, nTI, nTO, n1, n2, nl1, nl2⟩ := nS
  show wpAny _ _ (do let old ← Builtin.List.listItems (.ref S); Builtin.List.listUpdate (.ref S) (fun _ => #[]); letGo old.toList.reverse; Builtin.List.listExtendWith (.ref S) (.ref z) .none) _ _ _
  refine wpAny_bind ?_
  unfold Builtin.List.listItems
  refine wpAny_bind (wpAny_seqItems hS rfl (wpAny_pure ?_))
  show wpAny _ _ (updateSeq S (fun _ => #[]) >>= fun _ => letGo (#[] : Array Value).toList.reverse >>= fun _ => Builtin.List.listExtendWith (.ref S) (.ref z) .none) _ _ _
  refine wpAny_bind (wpAny_updateSeq hS rfl ?_)
  have hS₂ := Heap.get?_update_self (Obj.mapSeq (fun _ => (#[] : Array Value))) hS rfl
  have up2 : ∀ b o, b ≠ S → s.heap.get? b = some o → (s.heap.update S (Obj.mapSeq (fun _ => (#[] : Array Value)))).get? b = some o :=
    fun b o hb e => (Heap.get?_update_other _ _ (Ne.symm hb)).trans e
  refine wpAny_bind (wpAny_letGo ?_)
  have hz2 := up2 _ _ (Ne.symm nz) hz
  have tz : ∀ H3 : Heap, IsZip H3 z TI TO .none → ({ s with heap := H3 } : Shared).TypeIs (.ref z) "zip" := fun H3 q => ⟨_, q, rfl⟩
  unfold Builtin.List.listExtendWith
  refine wpAny_bind (wpAny_typeOf (tz _ hz2) ?_)
  have b1 : Builtin.List.listSameRef (.ref S) (.ref z) = false := by simp [Builtin.List.listSameRef]; exact nz
  have b2 : (Value.type "zip" == Value.type "list") = false := by decide
  have b3 : (Value.type "zip" == Value.type "tuple") = false := by decide
  simp only [b1, b2, b3, Bool.or_false, Bool.false_eq_true, if_false]
  refine wpAny_bind (wpAny_pyIter_zip hz2 ?_)
  refine wpAny_bind (wpAny_holding ?_)
  unfold Builtin.List.listLengthHint
  refine wpAny_bind (wpAny_specialOf (tz _ hz2) zip_nolen ?_)
  show wpAny _ _ (specialOf (Value.ref z) (Str.ofString "__length_hint__") >>= _) _ _ _
  refine wpAny_bind (wpAny_specialOf (tz _ hz2) zip_nohint ?_)
  refine wpAny_pure ?_
  show wpAny _ _ (rule "list.extend.makes-room" >>= fun _ => Builtin.List.listTouch (.ref S) >>= fun _ =>
    again (.builtin "list.extend.loop" ⟨[.ref S, .ref z, .none], []⟩)) _ _ _
  refine wpAny_bind (wpAny_rule ?_)
  refine wpAny_bind ?_
  show wpAny _ _ (updateSeq S (·.push .none) >>= fun _ => updateSeq S (·.pop)) _ _ _
  refine wpAny_bind (wpAny_updateSeq hS₂ rfl ?_)
  have hS₃ := Heap.get?_update_self (Obj.mapSeq (·.push Value.none)) hS₂ rfl
  refine wpAny_updateSeq hS₃ rfl ?_
  have hS₄ := Heap.get?_update_self (Obj.mapSeq (·.pop)) hS₃ rfl
  have up4 : ∀ b o, b ≠ S → s.heap.get? b = some o → (((s.heap.update S (Obj.mapSeq (fun _ => (#[] : Array Value)))).update S (Obj.mapSeq (·.push Value.none))).update S (Obj.mapSeq (·.pop))).get? b = some o :=
    fun b o hb e => (Heap.get?_update_other _ _ (Ne.symm hb)).trans ((Heap.get?_update_other _ _ (Ne.symm hb)).trans (up2 b o hb e))
  have sz4 : (((s.heap.update S (Obj.mapSeq (fun _ => (#[] : Array Value)))).update S (Obj.mapSeq (·.push Value.none))).update S (Obj.mapSeq (·.pop))).objs.size = s.heap.objs.size := by rw [Heap.size_update, Heap.size_update, Heap.size_update]
  refine wpAny_pure ⟨plainId_quiet PySem.F.plain_extend_loop _, ?_⟩
  have zs : ZS z TI TO i1 i2 l1 l2 S N xs ys h0 0 [] (((s.heap.update S (Obj.mapSeq (fun _ => (#[] : Array Value)))).update S (Obj.mapSeq (·.push Value.none))).update S (Obj.mapSeq (·.pop))) :=
    ⟨⟨⟨_, hS₄⟩, fun j T hj => by simp at hj, by simp, fun b o hb e => up4 b o (Nat.ne_of_lt (Nat.lt_of_lt_of_le hb nN.2.2.2.2)) (hk b o hb e)⟩, rfl, up4 _ _ (Ne.symm nTI) hTI, h1.at fun o e => up4 _ o (Ne.symm n1) e, h2.at fun o e => up4 _ o (Ne.symm n2) e, hl1.at fun o e => up4 _ o (Ne.symm nl1) e, hl2.at fun o e => up4 _ o (Ne.symm nl2) e, .inl ⟨up4 _ _ (Ne.symm nz) hz, a0, b0, up4 _ _ (Ne.symm nTO) hTO⟩, fun T hT => by simp at hT⟩
  exact zip_loop hh D ⟨nz, nTI, nTO, n1, n2, nl1, nl2⟩ nN hn _ 0 _ [] rfl (Nat.zero_le _) zs (by rw [sz4]; exact lTO) fun h' ts hl ze => hR h' ts hl ze
theorem call_list_zip {s : Shared} {E : Value → Shared → Prop} {z TI TO i1 i2 l1 l2 N : Addr} {xs ys : Array Value} {Q : Value → Shared → Prop} (hh : A.handled = none) (D : ZipApart z TI TO i1 i2 l1 l2)
    (nN : N ≤ z ∧ N ≤ TO ∧ N ≤ i1 ∧ N ≤ i2) (hn : min xs.size ys.size ≤ sizeLine) (hz : IsZip s.heap z TI TO .none) (hTI : IsPair s.heap TI (.ref i1) (.ref i2)) (hTO : ∃ a b, IsPair s.heap TO a b)
    (h1 : s.heap.IsListIter i1 l1 0) (h2 : s.heap.IsListIter i2 l2 0) (hl1 : s.heap.IsList l1 xs) (hl2 : s.heap.IsList l2 ys)
    (hQ : ∀ h' ts, ts.length = min xs.size ys.size → ZE s.heap.objs.size N xs ys s.heap ts h' → Q (.ref s.heap.objs.size) { s with heap := h' }) :
    wpAny (model prog w) A (call (.type "list") [.ref z]) Q E s := by
  have lz : z < s.heap.objs.size := Heap.lt_size hz
  have lTI : TI < s.heap.objs.size := Heap.lt_size hTI
  have lTO : TO < s.heap.objs.size := by obtain ⟨_, _, q⟩ := hTO; exact Heap.lt_size q
  have li1 : i1 < s.heap.objs.size := by obtain ⟨_, q, _⟩ := h1; exact Heap.lt_size q
  have li2 : i2 < s.heap.objs.size := by obtain ⟨_, q, _⟩ := h2; exact Heap.lt_size q
  have ll1 : l1 < s.heap.objs.size := by obtain ⟨_, q, _⟩ := hl1; exact Heap.lt_size q
  have ll2 : l2 < s.heap.objs.size := by obtain ⟨_, q, _⟩ := hl2; exact Heap.lt_size q
  refine callType_codes (Q₁ := fun obj s₁ => obj = .ref s.heap.objs.size ∧ s₁ = { s with heap := s.heap.push { cls := .type "list", data := .seq #[] } }) PySem.F.called_list (PySem.F.typeCall_list_1 _) PySem.F.entry_list_init
    (code_list_new _ ⟨rfl, rfl⟩) fun obj s₁ h₁ => ?_
  obtain ⟨rfl, rfl⟩ := h₁
  have hS : (s.heap.push { cls := .type "list", data := .seq #[] }).get? s.heap.objs.size = some { cls := .type "list", data := .seq #[] } := Heap.get?_push_size _ rfl
  have hp : ∀ b o, s.heap.get? b = some o → (s.heap.push { cls := .type "list", data := .seq #[] }).get? b = some o := fun b o e => Heap.get?_push_of_some _ e
  refine ⟨⟨_, hS, rfl⟩, PySem.F.args_list_init_2 _ _, ?_⟩
  refine list_init_zip (A := A.in1) hh D ⟨Nat.ne_of_gt lz, Nat.ne_of_gt lTI, Nat.ne_of_gt lTO, Nat.ne_of_gt li1, Nat.ne_of_gt li2, Nat.ne_of_gt ll1, Nat.ne_of_gt ll2⟩ ⟨nN.1, nN.2.1, nN.2.2.1, nN.2.2.2, Nat.le_trans nN.1 (Nat.le_of_lt lz)⟩ hn hS (hp _ _ hz) (hp _ _ hTI)
    (by obtain ⟨a, b, q⟩ := hTO; exact ⟨a, b, hp _ _ q⟩) (h1.at fun o e => hp _ o e) (h2.at fun o e => hp _ o e) (hl1.at fun o e => hp _ o e) (hl2.at fun o e => hp _ o e) (fun b o _ e => hp b o e) fun h' ts hl ze => ?_
  exact ⟨rfl, hQ h' ts hl ze⟩
end
/-! ### many new things at once -/
def Wd.news (S : Wd) : List (Addr × HO) → Wd
  | [] => S
  | p :: r => (S.new p.1 p.2).news r
theorem news_out : ∀ (ps : List (Addr × HO)) (S : Wd) (b : Addr), b ∉ ps.map (·.1) → (S.news ps).H b = S.H b ∧ (S.news ps).F b = S.F b
  | [], S, b, _ => ⟨rfl, rfl⟩
  | p :: r, S, b, h => by
    simp only [List.map_cons, List.mem_cons, not_or] at h
    obtain ⟨e1, e2⟩ := news_out r (S.new p.1 p.2) b h.2
    exact ⟨e1.trans (upd_ne h.1), e2.trans (upd_ne h.1)⟩
theorem news_in : ∀ (ps : List (Addr × HO)) (S : Wd), (ps.map (·.1)).Nodup → ∀ p ∈ ps, (S.news ps).H p.1 = some p.2 ∧ (S.news ps).F p.1 = some p.2
  | q :: r, S, nd, p, hp => by
    rw [List.map_cons, List.nodup_cons] at nd
    rcases List.mem_cons.mp hp with e | hp
    · subst e
      obtain ⟨e1, e2⟩ := news_out r (S.new p.1 p.2) p.1 nd.1
      exact ⟨e1.trans upd_same, e2.trans upd_same⟩
    · exact news_in r (S.new q.1 q.2) nd.2 p hp
theorem news_ok {K : PySem.W.Frag} {m : Mu} : ∀ (ps : List (Addr × HO)) (S : Wd), Sta K S m → (ps.map (·.1)).Nodup → (∀ p ∈ ps, S.H p.1 = none) → Stp S (S.news ps) ∧ Sta K (S.news ps) m
  | [], S, sa, _, _ => ⟨Stp.refl S, sa⟩
  | q :: r, S, sa, nd, hn => by
    rw [List.map_cons, List.nodup_cons] at nd
    have h0 := hn q List.mem_cons_self
    have st := Stp.new sa (o := q.2) h0
    obtain ⟨a, b⟩ := news_ok r (S.new q.1 q.2) (sa.new h0) nd.2 fun p hp => by
      show upd S.H q.1 q.2 p.1 = none
      rw [upd_ne fun e : p.1 = q.1 => nd.1 (by rw [← e]; exact List.mem_map_of_mem hp)]
      exact hn p (List.mem_cons_of_mem _ hp)
    exact ⟨st.trans a, b⟩
theorem news_inv {X : Cx} {pins : List (Addr × Obj)} {σ : L2.St} {S : Wd} {s : Shared} {h' : Heap} {t' : Nat} {ps : List (Addr × HO)} (I : Inv X pins σ S.H s) (nd : (ps.map (·.1)).Nodup) (k : ∀ b u, s.heap.get? b = some u → h'.get? b = some u)
    (hp : ∀ p ∈ ps, s.heap.objs.size ≤ p.1) (new : ∀ p ∈ ps, ∀ H' : Hp, ObjOk X.prog X.w H' h' p.1 p.2) : Inv X pins σ (S.news ps).H { s with heap := h', toks := t' } := by
  have out : ∀ b, b < s.heap.objs.size → (S.news ps).H b = S.H b := fun b hb => (news_out ps S b fun hm => by
    obtain ⟨p, hp', rfl⟩ := List.mem_map.mp hm
    exact absurd (hp p hp') (Nat.not_le.mpr hb)).1
  have lt : ∀ {b u}, S.H b = some u → b < s.heap.objs.size := fun e => I.hok.lt e
  refine I.un ⟨fun b u q _ _ _ => k b u q, fun b u q _ _ _ => ⟨u.slots, k b u q⟩, fun b u q n _ => (out b (Heap.lt_size q)).trans n, fun b u q _ => ⟨u, k b u q⟩, fun b xs q => (out b (lt q)).trans q, fun b u xs q => (out b (lt q)).trans q, fun b ps' q => ⟨#[], by rw [out b (lt q), q]; simp⟩⟩ fun b u e => ?_
  by_cases hm : b ∈ ps.map (·.1)
  · obtain ⟨p, hp', rfl⟩ := List.mem_map.mp hm
    rw [(news_in ps S nd p hp').1] at e
    cases e
    exact new p hp' _
  · rw [(news_out ps S b hm).1] at e
    exact (I.hok b u e).stay (fun c v _ q => k c v q) (fun c q => (out c (lt q)).trans q) fun c xs q => (out c (lt q)).trans q
theorem reps_zip {K : PySem.W.Frag} {i : List Addr} {F : Hp} : ∀ {dx dy : List D} {vx vy : List V} {ts : List Addr}, Reps K i F dx vx → Reps K i F dy vy → ts.length = min vx.length vy.length →
    (∀ (j : Nat) T x y, ts[j]? = some T → vx[j]? = some x → vy[j]? = some y → F T = some (.tup [x, y])) → Reps K i F ((dx.zip dy).map fun p => D.tup [p.1, p.2]) (ts.map V.ref)
  | _, _, _, _, ts, .nil, _, hl, _ => by
    have : ts = [] := List.length_eq_zero_iff.mp (by simpa using hl)
    subst this; simp; exact .nil
  | _, _, _, _, ts, .cons _ _, .nil, hl, _ => by
    have : ts = [] := List.length_eq_zero_iff.mp (by simpa using hl)
    subst this; simp; exact .nil
  | _, _, _, _, [], .cons _ _, .cons _ _, hl, _ => by simp at hl
  | _, _, _, _, T :: ts, .cons h r, .cons h2 r2, hl, hF => by
    refine .cons (.tup (.inl (.inl (hF 0 T _ _ rfl rfl rfl))) (.cons h (.cons h2 .nil))) (reps_zip r r2 (by simp at hl; omega) fun j T x y e1 e2 e3 => hF (j + 1) T x y (by simpa using e1) (by simpa using e2) (by simpa using e3))
theorem vals_refs : ∀ ts : List Addr, Vals (ts.map V.ref) (ts.map Value.ref)
  | [] => .nil
  | t :: ts => .cons rfl (vals_refs ts)
/-- list(zip(xs, ys)) -/
def dListZip (t : DA) : DE := fun e m => (t e m).bind fun ds m1 => match ds with
  | [.lst xs, .lst ys] => .ok (.lst ((xs.zip ys).map fun p => .tup [p.1, p.2])) m1
  | _ => .stuck
@[simp ↓] theorem dListZip_ap (t : DA) (e : En) (m : Mu) : dListZip t e m = (t e m).bind fun ds m1 => match ds with
  | [.lst xs, .lst ys] => .ok (.lst ((xs.zip ys).map fun p => .tup [p.1, p.2])) m1
  | _ => .stuck := rfl
section
variable {X : Cx} {a b : Expr} {t : DA} {p1 p2 pos1 pos2 : Pos}
theorem pd_listZip (hmL : X.mg "list" = none) (hmZ : X.mg "zip" = none) (ha : PDA X [a, b] t) (hgL : Gl X "list" := by rfl) (hgZ : Gl X "zip" := by rfl) (hc : X.calm = true := by rfl)
    (hs : starEach [a, b] X.env = (false, eval a X.env) :: starEach [b] X.env := by rfl) (hpl : (backTo pos2 (starEach [b] X.env)).any (·.1) = false := by rfl)
    (na : starEach [.Call (.Name "zip" p2) [a, b] [] pos2] X.env = (false, eval (.Call (.Name "zip" p2) [a, b] [] pos2) X.env) :: starEach [] X.env := by rfl) : PDE X (.Call (.Name "list" p1) [.Call (.Name "zip" p2) [a, b] [] pos2] [] pos1) (dListZip t) := by
  intro S r m σ Q sa re q pins s I
  refine Call_ (ld_blt I hgL hmL boot_list ?_)
  refine PyProof.Rows.callWith_type1 (PyProof.Rows.args_cons ?_ na) na rfl
  refine Call_ (ld_blt I hgZ hmZ PyProof.Rows.boot_zip (PyProof.Rows.callWith_type1 (thn (ha.run sa re q I pos2) ?_) hs hpl))
  rintro us s1 ⟨xs, ds, m1, T, st, sa1, rds, rv, I1, q1⟩
  split at q1
  · rename_i dxs dys
    obtain ⟨v1, v2, rfl, w1, w2⟩ := reps2 rds
    obtain ⟨l1, vx, rfl, hr, k1⟩ := frozen sa1 w1
    obtain ⟨l2, vy, rfl, hr2, k2⟩ := frozen sa1 w2
    cases rv with
    | cons r1 rv =>
    cases rv with
    | cons r2 rv =>
    cases rv
    cases r1
    cases r2
    obtain ⟨its, rvx, p1, z1⟩ := I1.list (k1 T m1 (Stp.refl T) sa1).1
    obtain ⟨its2, rvy, p2, z2⟩ := I1.list (k2 T m1 (Stp.refl T) sa1).1
    refine call_zip_2 p1.isList p2.isList fun h' hz hTI hTO h1 h2 hsz hk => ?_
    refine PyProof.Rows.args_nil ?_
    have hh : X.A.handled = none := I1.ok.hd hc
    have lx := rvx.length
    have ly := rvy.length
    refine call_list_zip (N := s1.heap.objs.size) (xs := its.toArray) (ys := its2.toArray) hh (PySem.W.ktu_apart s1.heap.objs.size l1 l2 p1.lt p2.lt) ⟨Nat.le_add_right _ _, Nat.le_add_right _ _, Nat.le_refl _, Nat.le_add_right _ _⟩ (by simp; omega) hz hTI ⟨_, _, hTO⟩ h1 h2 (p1.isList.at fun o e => hk _ o e) (p2.isList.at fun o e => hk _ o e) fun h2' ts hl ze => ?_
    have kk : ∀ b o, s1.heap.get? b = some o → h2'.get? b = some o := fun b o e => ze.keep b o (Heap.lt_size e) (hk b o e)
    have hln : ts.length = min vx.length vy.length := by rw [hl, List.size_toArray, List.size_toArray, lx, ly]
    obtain ⟨pt, hpt⟩ : ∃ X, ts.zip ((vx.zip vy).map fun p => HO.tup [p.1, p.2]) = X := ⟨_, rfl⟩
    have ptf : pt.map (·.1) = ts := by
      rw [← hpt]
      exact List.map_fst_zip (by rw [hln, List.length_map, List.length_zip]; exact Nat.le_refl _)
    have ptm : ∀ p ∈ pt, ∃ (j : Nat) (x y : V), ts[j]? = some p.1 ∧ vx[j]? = some x ∧ vy[j]? = some y ∧ p.2 = HO.tup [x, y] := fun p hp => by
      rw [← hpt] at hp
      obtain ⟨j, hj⟩ := List.mem_iff_getElem?.mp hp
      obtain ⟨e1, e2⟩ := List.getElem?_zip_eq_some.mp hj
      rw [List.getElem?_map] at e2
      cases e3 : (vx.zip vy)[j]? with
      | none => rw [e3] at e2; cases e2
      | some q =>
        rw [e3] at e2
        obtain ⟨f1, f2⟩ := List.getElem?_zip_eq_some.mp e3
        exact ⟨j, q.1, q.2, e1, f1, f2, (Option.some.inj e2).symm⟩
    obtain ⟨ps, hps⟩ : ∃ X, (h'.objs.size, HO.lst (ts.map V.ref)) :: pt = X := ⟨_, rfl⟩
    have hszl : s1.heap.objs.size ≤ h'.objs.size := by rw [hsz]; exact Nat.le_add_right _ _
    have nd : (ps.map (·.1)).Nodup := by
      rw [← hps, List.map_cons, ptf, List.nodup_cons]
      refine ⟨fun hm => ?_, ze.nd⟩
      obtain ⟨j, hj⟩ := List.mem_iff_getElem?.mp hm
      obtain ⟨_, _, _, _, _, _, ne⟩ := ze.tps j _ hj
      exact ne rfl
    have hge : ∀ p ∈ ps, s1.heap.objs.size ≤ p.1 := fun p hp => by
      rw [← hps] at hp
      rcases List.mem_cons.mp hp with e | hp
      · rw [e]; exact hszl
      · obtain ⟨j, x, y, e1, _⟩ := ptm p hp
        obtain ⟨_, _, _, _, _, g, _⟩ := ze.tps j _ e1
        exact g
    have hnone : ∀ p ∈ ps, T.H p.1 = none := fun p hp => I1.hok.fresh (hge p hp)
    obtain ⟨stN, saN⟩ := news_ok ps T sa1 nd hnone
    have IN : Inv X pins σ (T.news ps).H { s1 with heap := h2' } := news_inv (t' := s1.toks) I1 nd kk hge fun p hp H' => by
      rw [← hps] at hp
      rcases List.mem_cons.mp hp with e | hp
      · rw [e]
        obtain ⟨cc, hcc⟩ := ze.lst
        exact ⟨by rw [List.length_map, hln]; omega, ts.map Value.ref, cc, vals_refs ts, hcc⟩
      · obtain ⟨j, x, y, e1, e2, e3, e4⟩ := ptm p hp
        obtain ⟨u1, u2, f1, f2, f3, _⟩ := ze.tps j _ e1
        obtain ⟨w1', g1, g2⟩ := rvx.get e2
        obtain ⟨w2', g3, g4⟩ := rvy.get e3
        have a1 : u1 = w1' := by
          have : its[j]? = some u1 := by simpa using f1
          rw [g1] at this; exact (Option.some.inj this).symm
        have a2 : u2 = w2' := by
          have : its2[j]? = some u2 := by simpa using f2
          rw [g3] at this; exact (Option.some.inj this).symm
        subst a1 a2
        rw [e4]
        exact ⟨by show 2 ≤ sizeLine; decide, [u1, u2], .cons g2 (.cons g4 .nil), ⟨_, f3, rfl, _, rfl⟩⟩
    have inp := fun p hp => news_in ps T nd p hp
    refine ⟨.ref h'.objs.size, (T.news ps).H, IN, rfl, ?_⟩
    refine q1 (.ref h'.objs.size) (T.news ps) stN saN (.lst (.inl (.inl (inp (h'.objs.size, HO.lst (ts.map V.ref)) (by rw [← hps]; simp)).2)) ?_)
    refine reps_zip (hr.stp stN) (hr2.stp stN) hln fun j U x y e1 e2 e3 => ?_
    have hmem : (U, HO.tup [x, y]) ∈ ps := by
      rw [← hps, ← hpt]
      refine List.mem_cons_of_mem _ (List.mem_iff_getElem?.mpr ⟨j, List.getElem?_zip_eq_some.mpr ⟨e1, ?_⟩⟩)
      have e4 : (vx.zip vy)[j]? = some (x, y) := List.getElem?_zip_eq_some.mpr ⟨e2, e3⟩
      rw [List.getElem?_map, e4]; rfl
    exact (inp _ hmem).2
  · exact q1.elim
end
/-- keyword-only parameters with defaults, in a call with keywords; ms: those that lack -/
theorem bkW {K : PySem.W.Frag} {x qual : Str} {params : Arguments} {body : List Stmt} {scope : Scope} {kws : List (Str × V)} {f : Addr} {fd : FuncData} {ps : List Str} (F : FunD K x qual params body scope [] kws f fd) (n : Nat) (ks : List Str) (pl : List Nat) (ms : List (Str × V)) {dds : List D} (hk : kws ≠ []) (hms : ∀ q ∈ ms, q ∈ kws) (hD : ∀ (i : List Addr) (F : Hp), Reps K i F dds (ms.map (·.2)))
    (h : ∀ (E : Addr) (doc pm : Value) (an : Option Addr) (cdv ct : Value) (us ws its : List Value), us.length = n → ws.length = ks.length → its.length = ms.length →
      KwChain E ((ms.map (·.1)).zip its) (bindArgs (PySem.W.fnOf x qual params body scope .none (.ref E) doc pm an cdv ct) ⟨us, ks.zip ws⟩) (ps.zip (pl.filterMap fun i => (us ++ ws ++ its)[i]?)) ∧ (pl.filterMap fun i => (us ++ ws ++ its)[i]?).length = ps.length) : BK K fd ps n ks pl dds := by
  obtain ⟨oc, od, dV, kV, doc, pm, an, cdv, ct, osl, rfl, lk, hcd, hV, hK⟩ := F.ex
  rcases hV with ⟨_, rfl⟩ | ⟨e, _⟩
  · rcases hK with e | ⟨E, rfl, hq⟩
    · exact absurd e hk
    · obtain ⟨its, hl, rk, hks⟩ := kwd_vals (ms := ms) fun q hm => hq q (hms q hm)
      refine ⟨its, ms.map (·.2), rk, hD, fun s us ws X l1 l2 => ?_⟩
      obtain ⟨e1, e3⟩ := h E doc pm an cdv ct us ws its l1 l2 hl
      exact ⟨BindsTo.of_looks fun M => KwChain.looks X hks e1, e3⟩
  · exact absurd rfl e
end DL

set_option maxHeartbeats 1000000
/-! enumerate of a tuple -/
namespace DL
open PySem PySem.Spec PyProof.Rows L2 RZ
variable [LamTab]
theorem meets_enumerate_newB1 {v : Value} {o : Obj} {H : Heap → Prop} (B : Begins v o H) :
    Meets (Builtin.«enumerate.__new__» ⟨[.type "enumerate", v], []⟩) (fun _ R s => H s.heap ∧
      R (.ok (.ret (.ref (s.heap.push o).objs.size))) { s with heap := (s.heap.push o).push { cls := .type "enumerate", data := .fields #[.none, .bool false, .ref s.heap.objs.size, rawInt 0, .none, .none] } }) :=
  .of_wp fun prog w A R s h => by
    obtain ⟨hp, g, d, tk, os⟩ := s; obtain ⟨h1, h⟩ := h
    have hsub := sub_enumerate
    have q1 : ∀ {A' : Around} {E : Value → Shared → Prop} {Q : Value → Shared → Prop}, Q (.ref hp.objs.size) ⟨hp.push o, g, d, tk, os⟩ → wpAny (model prog w) A' (pyIter v) Q E ⟨hp, g, d, tk, os⟩ :=
      fun q => B.iter prog w _ _ ⟨hp, g, d, tk, os⟩ _ h1 q
    wp_walk using q1
    refine wpAny_stack_any fun st => wpAny_pure ?_
    split
    · rename_i c _ _ _ _ _
      cases (c == Value.type "enumerate")
      · wp_walk using q1
        exact ⟨_, rfl, h⟩
      · wp_walk using q1
        exact ⟨_, rfl, h⟩
    · wp_walk using q1
      exact ⟨_, rfl, h⟩
section
variable {prog : Program} {w : World} {A : Around} {E : Value → Shared → Prop} {s : Shared}
theorem enum_begins1 {v : Value} {o : Obj} {H : Heap → Prop} {Q : Value → Shared → Prop} (B : Begins v o H) (h1 : H s.heap)
    (h : ∀ h', IsEnum h' (s.heap.objs.size + 1) s.heap.objs.size 0 .none → h'.get? s.heap.objs.size = some o → h'.objs.size = s.heap.objs.size + 2 →
      (∀ b o, s.heap.get? b = some o → h'.get? b = some o) → Q (.ref (s.heap.objs.size + 1)) { s with heap := h' }) :
    wpAny (model prog w) A (call (.type "enumerate") [v]) Q E s := by
  refine callType_new F.called_enumerate (by decide) (F.typeCall_enumerate_1 _) (F.newCall_enumerate_1 _) (fun obj => F.args_object_init_2 obj _) F.entry_enumerate_new
    (meets_enumerate_newB1 B) ⟨h1, ?_⟩
  have hz : (s.heap.push o).objs.size = s.heap.objs.size + 1 := Heap.size_push ..
  show _ ∧ _
  rw [hz]
  have he : IsEnum ((s.heap.push o).push { cls := .type "enumerate", data := .fields #[.none, .bool false, .ref s.heap.objs.size, rawInt 0, .none, .none] }) (s.heap.objs.size + 1) s.heap.objs.size 0 .none := by
    have := Heap.get?_push_size (s.heap.push o) (o := { cls := .type "enumerate", data := .fields #[.none, .bool false, .ref s.heap.objs.size, rawInt 0, .none, .none] }) rfl
    rw [hz] at this; exact this
  refine ⟨⟨_, he, rfl⟩, h _ he (Heap.get?_push_of_some _ (Heap.get?_push_size _ B.free)) (by rw [Heap.size_push, hz]) fun b o x => Heap.get?_push_of_some _ (Heap.get?_push_of_some _ x)⟩
end
/-- an iterator of a tuple, drawn from an index on, or at its end -/
theorem drawsT {prog : Program} {w : World} {A : Around} (hh : A.handled = none) (it l : Addr) (hne : l ≠ it) (items : Array Value) (i0 : Nat) :
    Draws prog w A it [it, l] (if items.size ≤ i0 then i0 else items.size) (fun i v => items[i]? = some v) (fun i h => h.IsTupleIter it l i ∧ h.IsTuple l items ∧ i0 ≤ i) where
  live := fun _ _ st => let ⟨o, ho, _⟩ := st.1; ⟨o, ho⟩
  frame := fun _ _ _ st hk => ⟨st.1.at fun o e => hk it (by simp) o e, st.2.1.at fun o e => hk l (by simp) o e, st.2.2⟩
  item := fun i s Q E hi st hQ => by
    have hi : i < items.size := by
      have := st.2.2
      split at hi <;> omega
    refine nextOf_tuple_item st.1 st.2.1 (x := items[i]) (by simp [hi]) fun h' hit' hs' => ?_
    exact hQ _ h' s.toks (by simp [hi]) ⟨hit', st.2.1.at fun o e => hs'.extBut _ _ hne e, by omega⟩ hs'
  done := fun s Q E st hE => nextOf_tuple_end hh st.1 st.2.1 (by simp; split <;> omega) hE
/-- the tuple at a, each item in a new pair -/
def IteT (K : PySem.W.Frag) (a : Addr) : It :=
  ⟨fun i H => ∃ (xs : List V) (x : V), SqT K H a xs ∧ xs[i]? = some x, fun i H v H' => ∃ T x, v = .ref T ∧ H T = none ∧ H' = upd H T (.tup [.int (i : Nat), x]) ∧ ∀ xs, SqT K H a xs → xs[i]? = some x, fun i H => ∃ xs : List V, SqT K H a xs ∧ xs.length ≤ i⟩
theorem turn_enumT {P : Program} {w : World} {K : PySem.W.Frag} {elts : List Expr} {kk : Nat} {tpos : Pos} (a e it : Addr) (hne : e ≠ it) (hai : a ≠ it) (hae : a ≠ e) :
    Turn P w K (.Tuple elts kk tpos) (IteT K a) [e, it] e (fun i h => (∃ old, IsEnum h e it ((i : Nat) : Int) old) ∧ h.IsTupleIter it a i) where
  mem := by simp
  obj := fun i h st b hb => by
    obtain ⟨⟨old, he⟩, ⟨o, ho, hc, hd⟩⟩ := st
    have e' : b = e ∨ b = it := by simpa using hb
    rcases e' with z | z
    · rw [z]; exact ⟨_, he, fun v q => nomatch q⟩
    · rw [z]; exact ⟨o, ho, fun v q => by rw [hd] at q; cases q⟩
  keep := fun i h h' st k => let ⟨⟨old, he⟩, hi⟩ := st; ⟨⟨old, k e (by simp) _ he⟩, hi.at fun o q => k it (by simp) o q⟩
  item := by
    intro X hP hw hK hc i pins s σ H E I hf st hg
    subst hP hw hK
    obtain ⟨⟨old, he⟩, hit⟩ := st
    obtain ⟨xs, x, hq, hx⟩ := hg
    obtain ⟨its, rv, p, hz⟩ := I.tuple hq
    obtain ⟨u, hu, ru⟩ := rv.get hx
    have hh : X.A.in1.handled = none := I.ok.hd hc
    have hel : e < s.heap.objs.size := Heap.lt_size he
    have hil : it < s.heap.objs.size := by obtain ⟨_, q, _⟩ := hit; exact Heap.lt_size q
    have s1 : ¬ its.toArray.size ≤ i := by obtain ⟨q, _⟩ := List.getElem?_eq_some_iff.mp hu; simp; omega
    refine wpAny_pyNext_enum_itemD (drawsT (prog := X.prog) (w := X.w) hh it a hai its.toArray i) he ⟨hit, p, Nat.le_refl _⟩ (by rw [if_neg s1]; omega) hne (by simp; exact ⟨hne, hae.symm⟩) fun v h' tk hv ho hit' hT hsz hk => ?_
    have e1 : u = v := by
      have : its.toArray[i]? = some u := by simpa using hu
      rw [this] at hv; exact Option.some.inj hv
    subst e1
    refine ⟨_, rfl, wpAny_letOwnedTupleGo_enum (s := { s with heap := h', toks := tk + 1 }) ho fun h'' he' sb => ?_⟩
    have hT2 : h''.get? s.heap.objs.size = some { cls := .type "tuple", data := .seq #[.int i tk, u] } := (sb.2 _ (Nat.ne_of_gt hel)).trans hT
    have new : ObjOk X.prog X.w (upd H s.heap.objs.size (.tup [.int (i : Nat), x])) h'' s.heap.objs.size (.tup [.int (i : Nat), x]) :=
      ⟨by show 2 ≤ sizeLine; decide, [.int i tk, u], .cons ⟨_, rfl⟩ (.cons ru .nil), ⟨_, hT2, rfl, _, rfl⟩⟩
    have I1 : Inv X pins σ (upd H s.heap.objs.size (.tup [.int (i : Nat), x])) { s with heap := h'', toks := tk + 1 } :=
      I.turnedNew (ch := [e, it]) (fun b ob hb q => (sb.2 b (fun z => hb (by simp [z]))).trans (hk b ob (fun z => hb (by simp [z])) (fun z => hb (by simp [z])) q)) hf (Nat.le_refl _) new
    refine ⟨.ref s.heap.objs.size, _, I1, rfl, ⟨_, x, rfl, I.hok.fresh (Nat.le_refl _), rfl, fun ys hy => by rw [I.tuple_inj hy hq]; exact hx⟩, ⟨⟨u, ?_⟩, hit'.1.at fun o q => (sb.2 it (Ne.symm hne)).trans q⟩, fun b hb => ?_⟩
    · have e1 : ((i + 1 : Nat) : Int) = (i : Int) + 1 := by omega
      rw [e1]; exact he'
    · have hb' : b < s.heap.objs.size := by
        have e' : b = e ∨ b = it := by simpa using hb
        rcases e' with z | z
        · rw [z]; exact hel
        · rw [z]; exact hil
      rw [upd_ne (Nat.ne_of_lt hb')]
      exact (hf b hb).1
  done := by
    intro X hP hw hK hc i pins s σ H E I hf st hg
    subst hP hw hK
    obtain ⟨⟨old, he⟩, hit⟩ := st
    obtain ⟨xs, hq, hx⟩ := hg
    obtain ⟨its, rv, p, hz⟩ := I.tuple hq
    obtain ⟨f0, f1, f2, f3, f4, f5⟩ := hf it (by simp)
    have hl := rv.length
    have hh : X.A.in1.handled = none := I.ok.hd hc
    have k1 : its.toArray.size = its.length := by simp
    exact wpAny_pyNext_enum_endD (drawsT (prog := X.prog) (w := X.w) hh it a hai its.toArray i) he (by rw [if_pos (by omega)]; exact ⟨hit, p, Nat.le_refl _⟩) fun h' eb => ⟨rfl, I.turned (t' := s.toks) (fun b o hb q => eb b o hb q) f0 f1 f3 f4 f5⟩
  self := fun A i s Q E st h => let ⟨⟨_, he⟩, _⟩ := st; wpAny_pyIter_enum he h
def iEnumT (K : PySem.W.Frag) (ta : TA) : TI := fun σ H R => ta σ H fun vs H1 => ∃ a xs, vs = [.ref a] ∧ SqT K H1 a xs ∧ R (IteT K a) H1
theorem pi_enumT {X : Cx} {e : Expr} {ta : TA} {p pos tpos : Pos} {elts : List Expr} {kk : Nat} (hg : Gl X "enumerate") (hm : X.mg "enumerate" = none) (ha : PA X [e] ta) (hs : starEach [e] X.env = [(false, eval e X.env)] := by rfl) :
    PI X (.Tuple elts kk tpos) (.Call (.Name "enumerate" p) [e] [] pos) (iEnumT X.K ta) := by
  refine ⟨fun pins s σ H R I h => ?_⟩
  refine Call_ (ld_blt I hg hm boot_enumerate (PyProof.Rows.callWith_type1 (thn (ha.run pos pins s σ H _ I h) fun us s1 ⟨vs, H1, I1, r1, q1⟩ => ?_) hs rfl))
  obtain ⟨a, xs, ex, hq, q⟩ := q1
  subst ex
  cases r1 with
  | cons r rr =>
    cases rr
    cases r
    obtain ⟨its, rv, p', hz⟩ := I1.tuple hq
    obtain ⟨oa, hoa, _⟩ := id p'
    have hal : a < s1.heap.objs.size := Heap.lt_size hoa
    refine enum_begins1 (begins_tuple a its.toArray) p' fun h' he hit hsz hk => wpAny_pyIter_enum he ?_
    have I2 : Inv X pins σ H1 { s1 with heap := h' } := I1.kept (t' := s1.toks) hk
    refine ⟨s1.heap.objs.size + 1, [s1.heap.objs.size + 1, s1.heap.objs.size], _, _, H1, rfl, I2, turn_enumT a (s1.heap.objs.size + 1) s1.heap.objs.size (Nat.succ_ne_self _) (Nat.ne_of_lt hal) (Nat.ne_of_lt (Nat.lt_succ_of_lt hal)), ⟨⟨.none, he⟩, ⟨_, hit, rfl, rfl⟩⟩, fun b hb => ?_, q⟩
    have e' : b = s1.heap.objs.size + 1 ∨ b = s1.heap.objs.size := by simpa using hb
    have hle : s1.heap.objs.size ≤ b := by
      rcases e' with z | z
      · rw [z]; exact Nat.le_add_right _ _
      · rw [z]; exact Nat.le_refl _
    exact I1.fpOk hle (I1.hok.fresh hle)
/-- over enumerate(xs), xs a tuple -/
def dItET (t : DA) : DA := fun e m => (t e m).bind fun ds m1 => match ds with
  | [.tup es] => .ok ((List.range es.length).zipWith (fun k d => .tup [.int (k : Nat), d]) es) m1
  | _ => .stuck
@[simp ↓] theorem dItET_ap (t : DA) (e : En) (m : Mu) : dItET t e m = (t e m).bind fun ds m1 => match ds with
  | [.tup es] => .ok ((List.range es.length).zipWith (fun k d => .tup [.int (k : Nat), d]) es) m1
  | _ => .stuck := rfl
section
variable {X : Cx} {a : Expr} {t : DA} {p pos tpos : Pos}
theorem pdi_enumT {elts : List Expr} {kk : Nat} (hm : X.mg "enumerate" = none) (ha : PDA X [a] t) (hg : Gl X "enumerate" := by rfl) (hs : starEach [a] X.env = [(false, eval a X.env)] := by rfl) : PDI X (.Tuple elts kk tpos) (.Call (.Name "enumerate" p) [a] [] pos) (dItET t) := by
  refine pdi_of (pi_enumT hg hm (mxA X [a]) hs) fun S r m σ R sa re p => ?_
  refine ha S r m σ _ sa re (PostI.bindI p fun d m1 v T st sa1 rd q => ?_)
  split at q
  · rename_i es
    obtain ⟨w, rfl, hw⟩ := reps1 rd
    obtain ⟨a, xs, rfl, hr, k⟩ := frozenT sa1 hw
    refine ⟨a, xs, rfl, (k T m1 (Stp.refl T) sa1).1, q _ T (Stp.refl T) sa1 fun U m' i st' sa' => ⟨fun d hd => ?_, fun hl => ⟨xs, (k U m' st' sa').1, ?_⟩⟩⟩
    · obtain ⟨x, hx, rfl⟩ := enum_get es i d hd
      obtain ⟨v, hv, rv⟩ := (k U m' st' sa').2.get hx
      refine ⟨⟨xs, v, (k U m' st' sa').1, hv⟩, fun y H' hy => ?_⟩
      obtain ⟨n, z, rfl, hn, rfl, hz⟩ := hy
      have hz' := hz xs (k U m' st' sa').1
      rw [hv] at hz'; cases hz'
      have st2 := Stp.new sa' (o := .tup [.int (i : Nat), v]) hn
      exact ⟨U.new n _, rfl, st2, sa'.new hn, .tup (.inl (.inl upd_same)) (.cons (.int _) (.cons (rv.stp st2) .nil))⟩
    · have hl : ((List.range es.length).zipWith (fun k d => D.tup [.int (k : Nat), d]) es).length ≤ i := hl
      rw [List.length_zipWith, List.length_range, Nat.min_self, hr.len] at hl
      exact hl
  · exact q.elim
end
end DL

set_option maxHeartbeats 2000000
/-! A list comprehension whose element raises: the exception goes on in the def's own frame. -/
namespace DL
open PySem PySem.Spec PyProof.Rows L2
variable [LamTab]
section
variable {M : Model} {A : Around} {E : Value → Shared → Prop} {sq : Shared} {Zp : Obj → Prop} {gr : Heap} {fe : Env} {oth : List Env} {Lf Lx ad : Addr}
/-- it bears the note of another frame's names: a further note -/
theorem look_other {Qu : Unit → Shared → Prop} (stZ : PySem.HandSPX.Steady Zp) (fr : A.frames = some (fe :: oth)) (ff : fe.frame = some Lf) (ne : Lx ≠ Lf) (fl : PySem.HandSPX.HeldZ gr (fe :: oth) ad Zp Lx sq.heap)
    (hQ : ∀ hh, PySem.HandSPX.HeldZ gr (fe :: oth) ad Zp Lf hh → sq.heap.UpToSlots hh → Qu () { sq with heap := hh }) : wpAny M A (noteFrame (.ref ad) fe) Qu E sq := by
  obtain ⟨g1, g2, g3, oE, wE, tb, oTb, wT, e1, e2, e3, e4, e5, e6, e7, e8, e9⟩ := fl
  unfold noteFrame
  simp only [ff]
  refine wpAny_bind (wpAny_field e1 e3 e4 ?_)
  rw [if_pos (show (Value.ref tb != Value.none) = true by simp)]
  refine wpAny_bind (wpAny_field e7 e8 e9 ?_)
  rw [if_neg (show ¬ ((rawInt Lx == rawInt Lf) = true) by simp [rawInt]; exact fun z => ne (Int.ofNat.inj z))]
  refine wpAny_bind (wpAny_setField e7 e8 (Array.getElem?_eq_some_iff.mp e9).1 ?_)
  have oths : ∀ c, c ≠ tb → (sq.heap.update tb (Obj.mapFields (·.setIfInBounds 3 Value.none))).get? c = sq.heap.get? c := fun c hc => Heap.get?_update_other _ _ (Ne.symm hc)
  have noRec : ∀ c u, sq.heap.get? c = some u → (∀ vs, u.data ≠ .fields vs) → c ≠ tb := fun c u hb hn q => by
    rw [q, e7] at hb; injection hb with hb; subst hb; exact hn wT e8
  refine PySem.HandSPX.wpAny_entryZ stZ fr (g3.of_keeps fun c u hb hn => ⟨u, (oths c (noRec c u hb hn)).trans hb, rfl⟩) ff ((oths ad (Ne.symm e6)).trans e1)
    (fun c u hb => (oths c fun q => by rw [q, e5] at hb; cases hb).trans (g1 c u hb)) g2 e3 (Array.getElem?_eq_some_iff.mp e4).1 e2 fun hh hN => ?_
  obtain ⟨y1, y2, y3, y4⟩ := hN
  exact hQ hh ⟨y1, g2, y2, y3⟩ fun c u hb hn => y4 c u ((oths c (noRec c u hb hn)).trans hb) hn
end
section
variable {X : Cx}
/-- a block's context that lets exceptions out -/
abbrev Bx (X : Cx) (s : Shared) (H : Hp) (scope : Scope) (ce : Env) (fp : List Addr) (xe : Value → Shared → Prop) : Cx := { X.blk s H scope ce fp with xe := xe }
theorem inv_bx {s0 : Shared} {H0 : Hp} {scope : Scope} {ce : Env} {fp : List Addr} {xe : Value → Shared → Prop} {pins : List (Addr × Obj)} {σ : L2.St} {H : Hp} {s : Shared} (I : Inv (X.blk s0 H0 scope ce fp) pins σ H s) : Inv (Bx X s0 H0 scope ce fp xe) pins σ H s :=
  have k := I.ok
  ⟨⟨k.mod, k.kind, k.glob, k.blt, k.above, k.inj, k.has, k.cab, k.hd, k.frames, k.stk, k.exf, k.bs, k.bsz, k.noex, k.exfs, k.funs, k.frf⟩, I.os, I.bare, I.base, I.loc, I.cell, I.free, I.freeC, I.pin, I.hok, I.len⟩
theorem inv_ub {s0 : Shared} {H0 : Hp} {scope : Scope} {ce : Env} {fp : List Addr} {xe : Value → Shared → Prop} {pins : List (Addr × Obj)} {σ : L2.St} {H : Hp} {s : Shared} (I : Inv (Bx X s0 H0 scope ce fp xe) pins σ H s) : Inv (X.blk s0 H0 scope ce fp) pins σ H s :=
  have k := I.ok
  ⟨⟨k.mod, k.kind, k.glob, k.blt, k.above, k.inj, k.has, k.cab, k.hd, k.frames, k.stk, k.exf, k.bs, k.bsz, k.noex, k.exfs, k.funs, k.frf⟩, I.os, I.bare, I.base, I.loc, I.cell, I.free, I.freeC, I.pin, I.hok, I.len⟩
/-- what may leave X may leave the block of a comprehension in X -/
theorem fly_block {pins : List (Addr × Obj)} {σ : L2.St} {H3 : Hp} {s3 : Shared} {fp : List Addr} {scope : Scope} {ce : Env} (hs : X.stack = X.env :: X.outer) (hf : X.env.frame = some X.env.locals) (hcl : ce.frame = X.env.frame) (I3 : Inv X pins σ H3 s3)
    (f3 : ∀ b ∈ fp, FpOk X pins H3 b) (hL : s3.heap.objs.size ≤ ce.locals) {c : Value} {d : Option Addr} {σ' : L2.St} {H' : Hp} (fl : Fly X c d σ H') :
    Fly (Bx X s3 H3 scope ce fp (notedBy (model X.prog X.w) X.A ce (CompFails (model X.prog X.w) X.A X.xe ce))) c d σ' H' := by
  intro u s' xx
  obtain ⟨a, B, sI, pins', σ'', H'', cls, d', rfl, J, nb, up, sky, na, os, ag, z1, z2, z3, z4⟩ := xx
  subst z1 z2 z3 z4
  show wpAny _ _ (noteFrame (.ref a) ce) _ _ s'
  rw [noteFrame_env _ hcl]
  have hfr : X.A.frames = some (X.env :: X.outer) := by rw [I3.ok.frames, hs]
  obtain ⟨mC, hnC, _⟩ := J.loc
  have hnC : sI.heap.Ns ce.locals mC := hnC
  have nC : H'' ce.locals = none := J.free
  have J1 : Inv X pins σ H'' sI := I3.call' (ch := fp) J.os J.base J.hok J.bare fun b hb => ⟨(f3 b hb).2.2.2.1, (f3 b hb).2.1, (f3 b hb).2.2.2.2.1, (f3 b hb).2.2.2.2.2⟩
  have fC : FpOk X pins H'' ce.locals := I3.fpOk hL nC
  have J2 : Inv X pins σ H'' { sI with heap := PySem.W.hideAll sI.heap [ce.locals] } := J1.turned (t' := sI.toks) (fun b o hb e => PySem.W.hideAll_get _ e (by simpa using hb)) fC.1 fC.2.1 fC.2.2.2.1 fC.2.2.2.2.1 fC.2.2.2.2.2
  have neL : ce.locals ≠ X.env.locals := fC.2.1
  have fin : ∀ h1, PySem.HandSPX.HeldZ B (X.env :: X.outer) a (Zc cls d') X.env.locals h1 → s'.heap.UpToSlots h1 → CompFails (model X.prog X.w) X.A X.xe ce (.ref a) { s' with heap := h1 } := by
    intro h1 hh up1
    have hn1 : h1.Ns ce.locals mC := (up.trans up1).ns hnC
    refine ⟨mC, hn1, fun h2 m2 hn2 sb2 => ?_⟩
    obtain ⟨oC, es, ep, hoC, hdC, _⟩ := hn1
    obtain ⟨g1, g2, g3, oE, wE, tb, oTb, wT, e1, e2, e3, e4, e5, e6, e7, e8, e9⟩ := hh
    have naC : a ≠ ce.locals := fun z => by
      rw [z] at e1
      rw [e1] at hoC; cases hoC
      rw [e3] at hdC; cases hdC
    have ntC : tb ≠ ce.locals := fun z => by
      rw [z] at e7
      rw [e7] at hoC; cases hoC
      rw [e8] at hdC; cases hdC
    have notC : ∀ b, (PySem.W.hideAll B [ce.locals]).get? b ≠ none → b ≠ ce.locals := fun b hb z => hb (by rw [z]; exact PySem.W.hideAll_none _ (by simp))
    have small : ∀ b o, (PySem.W.hideAll B [ce.locals]).get? b = some o → B.get? b = some o := fun b o e => PySem.W.of_hideAll _ e
    have smN : ∀ b, B.get? b = none → (PySem.W.hideAll B [ce.locals]).get? b = none := fun b e => by
      cases q : (PySem.W.hideAll B [ce.locals]).get? b with
      | none => rfl
      | some o => rw [small b o q] at e; cases e
    have frB : ∀ b ∈ frs (X.env :: X.outer), B.get? b = none := fun b hb => by
      obtain ⟨en, he, q⟩ := List.mem_filterMap.mp hb
      exact (g3.mem (List.mem_filterMap.mpr ⟨en, he, q⟩)).1
    have g3' : h2.FunFrames (PySem.W.hideAll B [ce.locals]) (X.env :: X.outer) := funFrames_none (Heap.FunFrames.sameBut sb2 hn2 g3) fun b hb => smN b (frB b hb)
    have hh2 : PySem.HandSPX.HeldZ (PySem.W.hideAll B [ce.locals]) (X.env :: X.outer) a (Zc cls d') X.env.locals h2 := by
      refine ⟨fun b o e => ?_, smN a g2, g3', oE, wE, tb, oTb, wT, (sb2.2 a naC).trans e1, e2, e3, e4, smN tb e5, e6, (sb2.2 tb ntC).trans e7, e8, e9⟩
      exact (sb2.2 b (notC b (by rw [e]; simp))).trans (g1 b o (small b o e))
    unfold PySem.passOn
    refine wpAny_bind (wpAny_field ((sb2.2 a naC).trans e1) e3 e4 ?_)
    rw [if_neg (show ¬ ((Value.ref tb == Value.none) = true) by simp)]
    have go : wpAny (model X.prog X.w) X.A (setFlight (.ref a) ce.frame) (fun _ s4 => wpAny (model X.prog X.w) X.A (throw (.ref a) : Sem Value) (fun _ _ => False) X.xe s4) X.xe { s' with heap := h2 } := by
      rw [hcl, hf]
      refine PySem.HandSPX.setFlight_onZ hh2 fun h3 hh3 up3 => wpAny_throw ?_
      refine fl _ _ ⟨a, PySem.W.hideAll B [ce.locals], _, pins, σ, H'', cls, d', rfl, J2, fun b o e hb => ?_, fun b o e hn => ?_, .inr (.inr (by rw [hs]; exact hh3)), na, os, ag, rfl, rfl, rfl, rfl⟩
      · have hne : b ≠ ce.locals := fun z => by
          rw [z, PySem.W.hideAll_none _ (by simp)] at e; cases e
        exact PySem.W.hideAll_get _ (nb b o (PySem.W.of_hideAll _ e) hb) (by simpa using hne)
      · have hne : b ≠ ce.locals := fun z => by
          rw [z, PySem.W.hideAll_none _ (by simp)] at e; cases e
        obtain ⟨sl, q⟩ := (up.trans up1) b o (PySem.W.of_hideAll _ e) hn
        exact up3 b _ ((sb2.2 b hne).trans q) hn |>.imp fun sl q => q
    first
      | exact wpAny_bind (wpAny_pure (wpAny_bind go))
      | exact wpAny_bind go
  have sky : Sky B (X.env :: X.outer) a (Zc cls d') ce.locals s'.heap := by rw [← hs]; exact sky
  rcases sky with ⟨hB, hn, hl, oe, vs, he, hz, hd, h1⟩ | fl | hh
  · exact PySem.HandSPX.look_newZ Zc.steady hfr hl hf he hB hn hd h1 hz fin
  · exact PySem.HandSPX.looks_onZ Zc.steady hfr hf fl fin
  · exact look_other Zc.steady hfr hf neL hh fin

/-- the comprehension, its element may raise -/
theorem lc_raise {pins : List (Addr × Obj)} {s : Shared} {σ : L2.St} {H : Hp} {Q : VK} {elt tg iter : Expr} {ifs : List Expr} {scope : Scope} {own : List (Str × Nat)} {pos pos' : Pos} {wi : TI} {g : TG} {tt : TT} {te : TE} {Qf : Value → Shared → Prop}
    (hs0 : X.stack = X.env :: X.outer) (hf0 : X.env.frame = some X.env.locals) (calm : X.calm = true) (nd : X.N.Nodup) (I : Inv X pins σ H s) (hi : PI X tg iter wi) (ok : BlkOk X.N X.env.scope scope own)
    (hg : ∀ (s : Shared) (H : Hp) (C : Addr) (cl : List (Str × Addr)) (fp : List Addr), PG (Bk X scope s H C cl fp) tg g) (ht : ∀ (s : Shared) (H : Hp) (C : Addr) (cl : List (Str × Addr)) (fp : List Addr), PTs (Bk X scope s H C cl fp) ifs tt)
    (he : ∀ (s : Shared) (H : Hp) (C : Addr) (cl : List (Str × Addr)) (fp : List Addr) (xe : Value → Shared → Prop), (∀ c d σ' H', Fly X c d σ H' → Fly (Bx X s H scope (compEnvC scope cl C X.env) fp xe) c d σ' H') → PE (Bx X s H scope (compEnvC scope cl C X.env) fp xe) elt te)
    (hs : ∀ x, foldedSetIterable iter X.env x = pure x) (h : tLc wi g tt te (own.map (·.2)) σ H Q)
    (hRR : ∀ Dd ce s' m H', Inv X pins σ H' s' → Q (.ref Dd) H' → s'.heap.Ns ce.locals m → FpOk X pins H' ce.locals → compEnds (model X.prog X.w) X.A X.xe none Qf (.ref Dd) ce (.ok .next) s') :
    wpAny (model X.prog X.w) X.A (comprehension (.ListComp elt [⟨tg, iter, ifs, 0⟩] scope pos) scope X.env pos' (newList []) false (eval iter X.env) none) Qf X.xe s := by
  have caught : ∀ y ∈ scope.names, y.2 = .free → ∃ c, X.env.cells.lookup y.1 = some c := fun y hy e => (ok.free y hy e).elim (fun k => I.ok.has _ (.inl k)) fun k => I.ok.has _ (.inr k)
  refine comprehension_at (use := none) rfl hs (closure_ok caught) ok.kind (fun y hy e => by rw [ok.uniq y hy, e]) (thn (hi.run pins s σ H _ I h) fun xv s1 hx => thn hx fun itv s2 h2 => ?_)
  obtain ⟨it, fp, tn, J, H2, rfl, I2, T, st2, f2, q⟩ := h2
  refine wpAny_newObj_type (newEnv_comp ?_) (by show 0 ≤ sizeLine; decide)
  generalize hD : s2.heap.objs.size = Dd
  have hDn : H2 Dd = none := I2.hok.fresh (Nat.le_of_eq hD)
  obtain ⟨W, ⟨m0, w0⟩, turn⟩ := q Dd hDn
  generalize hs3 : ({ s2 with heap := s2.heap.push { cls := .type "list", data := .seq ([] : List Value).toArray } } : Shared) = s3
  have h3 : s3.heap = s2.heap.push { cls := .type "list", data := .seq ([] : List Value).toArray } := by subst hs3; rfl
  have I3 : Inv X pins σ (upd H2 Dd (.lst [])) s3 := by
    subst hs3
    exact I2.laid (t' := s2.toks) (fun b o e => Heap.get?_push_of_some _ e) (Nat.le_of_eq hD) ⟨Nat.zero_le _, [], 0, .nil, by subst hD; exact Heap.get?_push_size _ rfl⟩
  have f3 : ∀ b ∈ fp, FpOk X pins (upd H2 Dd (.lst [])) b ∧ b < s3.heap.objs.size := fun b hb => by
    obtain ⟨o, e, _⟩ := T.obj _ _ st2 b hb
    have lt := Heap.lt_size e
    refine ⟨⟨?_, (f2 b hb).2⟩, by rw [h3, Heap.size_push]; exact Nat.lt_succ_of_lt lt⟩
    rw [upd_ne (by subst hD; exact Nat.ne_of_lt lt)]
    exact (f2 b hb).1
  have st3 : tn 0 s3.heap := T.keep _ _ _ st2 fun b _ o e => by rw [h3]; exact Heap.get?_push_of_some _ e
  have I4 := block_start I3 ok nd f3
  show codeAny _ _ (.compStart (.ListComp elt [⟨tg, iter, ifs, 0⟩] scope pos) 0 (.ref it) (.ref Dd) (compEnvC scope (cellsFrom (s3.heap.objs.size + 1) scope.names (cloFrom X.env.cells scope.names [])) s3.heap.objs.size X.env))
    (compEnds (model X.prog X.w) X.A X.xe none Qf (.ref Dd) (compEnvC scope (cellsFrom (s3.heap.objs.size + 1) scope.names (cloFrom X.env.cells scope.names [])) s3.heap.objs.size X.env)) { s3 with heap := pushCells (s3.heap.push { cls := .type "dict", data := .dict #[] }) scope.names }
  generalize hcl : cellsFrom (s3.heap.objs.size + 1) scope.names (cloFrom X.env.cells scope.names []) = cl at I4 ⊢
  have pg : PG (X.blk s3 (upd H2 Dd (.lst [])) scope (compEnvC scope cl s3.heap.objs.size X.env) fp) tg g := hg s3 (upd H2 Dd (.lst [])) s3.heap.objs.size cl fp
  have pt : PTs (X.blk s3 (upd H2 Dd (.lst [])) scope (compEnvC scope cl s3.heap.objs.size X.env) fp) ifs tt := ht s3 (upd H2 Dd (.lst [])) s3.heap.objs.size cl fp
  have pe := he s3 (upd H2 Dd (.lst [])) s3.heap.objs.size cl fp (notedBy (model X.prog X.w) X.A (compEnvC scope cl s3.heap.objs.size X.env) (CompFails (model X.prog X.w) X.A X.xe (compEnvC scope cl s3.heap.objs.size X.env)))
    fun c d σ' H' fl => fly_block (ce := compEnvC scope cl s3.heap.objs.size X.env) hs0 hf0 rfl I3 (fun b hb => (f3 b hb).1) (Nat.le_refl _) fl
  have nfp : ∀ b ∈ fp, (upd H2 Dd (.lst [])) b = none := fun b hb => (f3 b hb).1.1
  generalize hce : compEnvC scope cl s3.heap.objs.size X.env = ce at I4 pg pt pe ⊢
  have cL : ce.locals = s3.heap.objs.size := by subst hce; rfl
  generalize hH3 : upd H2 Dd (.lst []) = H3 at I3 I4 pg pt pe w0 nfp f3
  generalize hs4 : ({ s3 with heap := pushCells (s3.heap.push { cls := .type "dict", data := .dict #[] }) scope.names } : Shared) = s4 at I4 ⊢
  have st4 : tn 0 s4.heap := T.keep _ _ _ st3 fun b _ o e => by subst hs4; exact pushCells_keeps _ _ _ _ (Heap.get?_push_of_some _ e)
  have stands : ∀ {σ' : L2.St} {H' : Hp} {s' : Shared}, Inv (X.blk s3 H3 scope ce fp) [] σ' H' s' → (∀ b ∈ fp, H' b = none) → ∀ b ∈ fp, FpOk (X.blk s3 H3 scope ce fp) [] H' b := fun {σ' H' s'} I' hn b hb =>
    ⟨hn b hb, (I'.ok.exf b hb).1, I'.ok.exfs b hb, .inl hb, fun x c e => (I'.ok.exf b hb).2 x c e, fun p hp => by simp at hp⟩
  have loop : codeAny (model X.prog X.w) X.A (.compLoop (.ListComp elt [⟨tg, iter, ifs, 0⟩] scope pos) 0 (.ref it) (.ref Dd) ce) (compEnds (model X.prog X.w) X.A X.xe none Qf (.ref Dd) ce) s4 := by
    refine compLoop_any (R := compEnds (model X.prog X.w) X.A X.xe none Qf (.ref Dd) ce) (fun n s' => ∃ i H', Inv (X.blk s3 H3 scope ce fp) [] (wipe σ (own.map (·.2))) H' s' ∧ tn i s'.heap ∧ (∀ b ∈ fp, H' b = none) ∧ W i n H') ?_ m0 ⟨0, H3, I4, st4, nfp, w0⟩
    rintro n s5 ⟨i, H5, I5, st5, n5, w5⟩
    rcases turn i n H5 w5 with ⟨stop, qq⟩ | ⟨go, Nx, hNx, step⟩
    · refine thnF (T.done (X.blk s3 H3 scope ce fp) rfl rfl rfl calm i [] s5 _ H5 (fun _ _ => False) I5 (stands I5 n5) st5 stop) fun r s6 ⟨hr, I6⟩ => ?_
      subst hr
      have I7 : Inv X pins σ H5 s6 := I3.call' (ch := fp) I6.os I6.base I6.hok I6.bare fun b hb => ⟨(f3 b hb).1.2.2.2.1, (f3 b hb).1.2.1, (f3 b hb).1.2.2.2.2.1, (f3 b hb).1.2.2.2.2.2⟩
      have nC : H5 ce.locals = none := I6.free
      obtain ⟨m, hn, _⟩ := I6.loc
      exact hRR Dd ce s6 m H5 I7 qq hn (I3.fpOk (by rw [cL]; exact Nat.le_refl _) nC)
    · refine thnF (T.item (X.blk s3 H3 scope ce fp) rfl rfl rfl calm i [] s5 _ H5 (fun _ _ => False) I5 (stands I5 n5) st5 go) fun r s6 ⟨u, hr, h6⟩ => ?_
      subst hr
      refine thnF h6 fun _ s7 ⟨x, H7, I7, r7, y7, st7, n7⟩ => ?_
      have I7' := I7.pinned (stands I7 n7) (T.obj _ _ st7)
      refine thnF (pg.run _ s7 _ H7 x u _ I7' r7 (step x H7 y7)) fun _ s8 ⟨σ8, H8, I8, hw8, q8⟩ => ?_
      refine thnF (pt.run _ s8 σ8 H8 _ I8 q8) fun b s9 ⟨H9, I9, q9⟩ => ?_
      have done : ∀ {s' : Shared} {H' : Hp}, Inv (X.blk s3 H3 scope ce fp) ([] ++ pinsAt fp s7.heap) σ8 H' s' → Nx H' → ∃ m, m < n ∧ ∃ i H', Inv (X.blk s3 H3 scope ce fp) [] (wipe σ (own.map (·.2))) H' s' ∧ tn i s'.heap ∧ (∀ b ∈ fp, H' b = none) ∧ W i m H' := fun {s' H'} I' nx => by
        obtain ⟨m', hm, w'⟩ := hNx H' nx
        have pinned : ∀ b ∈ fp, ∀ o, s7.heap.get? b = some o → s'.heap.get? b = some o ∧ H' b = none := fun b hb o e =>
          have z := I'.pin (b, o) (List.mem_append_right _ (List.mem_append_right _ (mem_pinsAt hb e)))
          ⟨z.1, z.2.1⟩
        refine ⟨m', hm, i + 1, H', (I'.unpinned (pins := [])).weak (by rw [← hw8, wipe_length]) (fun j v e => ?_), T.keep _ _ _ st7 fun b hb o e => (pinned b hb o e).1, fun b hb => ?_, w'⟩
        · rw [← hw8] at e; exact (wipe_some e).1
        · obtain ⟨o, e, _⟩ := T.obj _ _ st7 b hb; exact (pinned b hb o e).2
      cases b with
      | false =>
        simp only [Bool.false_eq_true, if_false] at q9 ⊢
        exact done I9 q9
      | true =>
        simp only [if_true] at q9 ⊢
        refine wpAny_mono (pe.run _ s9 σ8 H9 _ (inv_bx I9) q9) (fun z s10 ⟨yv, H10, I10, r10, acc, hD10, hz10, nx⟩ => ?_) fun u s10 hx => hx
        exact app_ok (X := X.blk s3 H3 scope ce fp) (inv_ub I10) hD10 hz10 r10 fun s11 I11 => done I11 nx
  exact codeAny_compStart_list loop (T.self X.A 0 _ _ _ st4 loop)
/-- as a value -/
theorem pe_lcE {elt tg iter : Expr} {ifs : List Expr} {scope : Scope} {own : List (Str × Nat)} {pos : Pos} {wi : TI} {g : TG} {tt : TT} {te : L2.St → TE} (hs0 : X.stack = X.env :: X.outer) (hf0 : X.env.frame = some X.env.locals) (calm : X.calm = true) (nd : X.N.Nodup) (hi : PI X tg iter wi) (ok : BlkOk X.N X.env.scope scope own)
    (hg : ∀ (s : Shared) (H : Hp) (C : Addr) (cl : List (Str × Addr)) (fp : List Addr), PG (Bk X scope s H C cl fp) tg g) (ht : ∀ (s : Shared) (H : Hp) (C : Addr) (cl : List (Str × Addr)) (fp : List Addr), PTs (Bk X scope s H C cl fp) ifs tt)
    (he : ∀ (σ : L2.St) (s : Shared) (H : Hp) (C : Addr) (cl : List (Str × Addr)) (fp : List Addr) (xe : Value → Shared → Prop), (∀ c d σ' H', Fly X c d σ H' → Fly (Bx X s H scope (compEnvC scope cl C X.env) fp xe) c d σ' H') → PE (Bx X s H scope (compEnvC scope cl C X.env) fp xe) elt (te σ)) (hs : ∀ x, foldedSetIterable iter X.env x = pure x) :
    PE X (.ListComp elt [⟨tg, iter, ifs, 0⟩] scope pos) (fun σ H Q => tLc wi g tt (te σ) (own.map (·.2)) σ H Q) := by
  refine ⟨fun pins s σ H Q I h => ?_⟩
  rw [eval_ListComp]
  refine lc_raise hs0 hf0 calm nd I hi ok hg ht (he σ) hs h fun Dd ce s' m H' I' q hn f => ⟨m, hn, fun h2 sb => ?_⟩
  obtain ⟨k0, k1, k2, k3, k4, k5⟩ := f
  exact ⟨.ref Dd, H', I'.turned (t' := s'.toks) (fun b o hb e => (sb.2 b hb).trans e) k0 k1 k3 k4 k5, rfl, q⟩
end
/-- the items; an item's exception is the answer -/
def dCompLE (g : DG) (c : DT) (b : DE) (e : En) : List D → Mu → List D → Res (List D)
  | [], m, acc => .ok acc m
  | d :: ds, m, acc => match g d e with
    | none => .stuck
    | some e1 => match c e1 m with
      | .ok true m1 => match b e1 m1 with
        | .ok x m2 => if acc.length < sizeLine then dCompLE g c b e ds m2 (acc ++ [x]) else .stuck
        | .exc C fs m2 => .exc C fs m2
        | .stuck => .stuck
      | .ok false m1 => dCompLE g c b e ds m1 acc
      | _ => .stuck
def dCompE (t : DA) (g : DG) (c : DT) (b : DE) (own : List Nat) : DE := fun e m => (t e m).bind fun ds m1 => (dCompLE g c b (wipeE e own) ds m1 []).bind fun xs m2 => .ok (.lst xs) m2
/-- where no item raises it is the other one -/
theorem compLE_of {g : DG} {c : DT} {b : DE} {e : En} : ∀ {ds : List D} {m : Mu} {acc xs : List D} {m1 : Mu}, dCompL g c b e ds m acc = .ok xs m1 → dCompLE g c b e ds m acc = .ok xs m1
  | [], m, acc, xs, m1, h => by unfold dCompL at h; unfold dCompLE; exact h
  | d :: ds, m, acc, xs, m1, h => by
    unfold dCompL at h; unfold dCompLE
    cases q : g d e with
    | none => rw [q] at h; cases h
    | some e1 =>
      rw [q] at h; dsimp only at h ⊢
      cases qc : c e1 m with
      | stuck => rw [qc] at h; cases h
      | exc C fs m2 => rw [qc] at h; cases h
      | ok k m2 =>
        rw [qc] at h
        cases k with
        | false => exact compLE_of h
        | true =>
          dsimp only at h ⊢
          cases qb : b e1 m2 with
          | stuck => rw [qb] at h; cases h
          | exc C fs m3 => rw [qb] at h; cases h
          | ok x m3 =>
            rw [qb] at h; dsimp only at h ⊢
            split at h
            · rename_i hl
              rw [if_pos hl]; exact compLE_of h
            · cases h
@[simp ↓] theorem dCompE_ap (t : DA) (g : DG) (c : DT) (b : DE) (own : List Nat) (e : En) (m : Mu) : dCompE t g c b own e m = (t e m).bind fun ds m1 => (dCompLE g c b (wipeE e own) ds m1 []).bind fun xs m2 => .ok (.lst xs) m2 := rfl
section
variable {X : Cx} {elt tg iter : Expr} {ifs : List Expr} {scope : Scope} {own : List (Str × Nat)} {pos spos : Pos} {t : DA} {g : DG} {c : DT} {b : DE} {sl : List Nat}
abbrev bEx (X : Cx) (scope : Scope) (elt : Expr) (σX : L2.St) : TE := fun σ H Q => ∀ s0 H0 C cl fp xe, (∀ c d σ' H', Fly X c d σX H' → Fly (Bx X s0 H0 scope (compEnvC scope cl C X.env) fp xe) c d σ' H') → WE (Bx X s0 H0 scope (compEnvC scope cl C X.env) fp xe) elt σ H Q
theorem lc_goE {σ : L2.St} {S : Wd} {r : En} {m : Mu} {Q : VK} (hi : PDI X tg iter t)
    (hg : ∀ s H C cl fp, PDG (Bk X scope s H C cl fp) tg g sl) (ht : ∀ s H C cl fp, PDTs (Bk X scope s H C cl fp) ifs c) (he : ∀ s H C cl fp xe, PDE (Bx X s H scope (compEnvC scope cl C X.env) fp xe) elt b)
    (hsl : ∀ i ∈ sl, i ∈ own.map (·.2))
    (sa : Sta X.K S m) (re : RelE X.K S r σ) (p : PostD X.K S (dCompE t g c b (own.map (·.2)) r m) Q (fun c d H => Fly X c d σ H)) :
    tLc (WI X tg iter) (bG X scope tg) (bT X scope ifs) (bEx X scope elt σ) (own.map (·.2)) σ S.H Q := by
  refine hi S r m σ _ sa re ?_
  unfold dCompE at p
  cases q : t r m with
  | stuck => rw [q] at p; exact p
  | exc C fs m1 => rw [q] at p; exact p
  | ok ds m1 =>
    rw [q] at p
    intro J T st sa1 hJ Dd hD
    have pT : PostD X.K T ((dCompLE g c b (wipeE r (own.map (·.2))) ds m1 []).bind fun xs m2 => Res.ok (D.lst xs) m2) Q (fun c d H => Fly X c d σ H) := Post.step st p
    have reW : RelE X.K T (wipeE r (own.map (·.2))) (wipe σ (own.map (·.2))) := (re.stp st).wipe _
    have f0 := sa1.fresh hD
    refine ⟨fun i n H' => n = ds.length - i ∧ i ≤ ds.length ∧ ∃ (U : Wd) (m' : Mu) (acc : List D) (av : List V), U.H = H' ∧ Stp T U ∧ Sta X.K U m' ∧ U.H Dd = some (.lst av) ∧ U.F Dd = none ∧ Dd ∉ U.i ∧ Reps X.K U.i U.F acc av ∧
        PostD X.K T ((dCompLE g c b (wipeE r (own.map (·.2))) (ds.drop i) m' acc).bind fun xs m2 => Res.ok (D.lst xs) m2) Q (fun c d H => Fly X c d σ H),
      ⟨ds.length, by simp, Nat.zero_le _, T.put Dd (.lst []), m1, [], [], rfl, (Stp.refl T).hid hD, sa1.hid f0.1 f0.2 (by rw [hD]; exact nofun), upd_same, f0.1, f0.2, .nil, pT⟩, ?_⟩
    rintro i n H' ⟨rfl, hi', U, m', acc, av, rfl, stU, saU, hU1, hU2, hU3, rA, pU⟩
    by_cases hlt : i < ds.length
    · refine .inr ⟨((hJ U m' i stU saU).1 _ (List.getElem?_eq_getElem hlt)).1, fun H2 => i + 1 ≤ ds.length ∧ ∃ (U : Wd) (m' : Mu) (acc : List D) (av : List V), U.H = H2 ∧ Stp T U ∧ Sta X.K U m' ∧ U.H Dd = some (.lst av) ∧ U.F Dd = none ∧ Dd ∉ U.i ∧ Reps X.K U.i U.F acc av ∧
        PostD X.K T ((dCompLE g c b (wipeE r (own.map (·.2))) (ds.drop (i + 1)) m' acc).bind fun xs m2 => Res.ok (D.lst xs) m2) Q (fun c d H => Fly X c d σ H),
        fun H2 h2 => ⟨ds.length - (i + 1), by omega, rfl, h2.1, h2.2⟩, fun x H2 hy => ?_⟩
      obtain ⟨Y, rfl, stY, saY, rdY⟩ := ((hJ U m' i stU saU).1 _ (List.getElem?_eq_getElem hlt)).2 x H2 hy
      obtain ⟨y1, y2, y3⟩ := stY.frame Dd _ (by exact nofun) hU1 hU2 hU3
      rw [List.drop_eq_getElem_cons hlt] at pU
      unfold dCompLE at pU
      have stT := stU.trans stY
      cases qg : g ds[i] (wipeE r (own.map (·.2))) with
      | none => rw [qg] at pU; exact (show False from pU).elim
      | some e1 =>
        rw [qg] at pU
        dsimp only at pU
        intro s0 H0 C0 cl0 fp0
        refine hg s0 H0 C0 cl0 fp0 Y (wipeE r (own.map (·.2))) m' (wipe σ (own.map (·.2))) ds[i] x e1 _ saY (reW.stp stT) rdY qg ?_
        intro σ1 re1 bs
        refine ⟨?_, ?_⟩
        · rw [bs _ hsl]
          exact wipe_wipe _ _
        intro s0 H0 C0 cl0 fp0
        cases qc : c e1 m' with
        | stuck => rw [qc] at pU; exact (show False from pU).elim
        | exc C fs m2 => rw [qc] at pU; exact (show False from pU).elim
        | ok k m2 =>
          rw [qc] at pU
          refine ht s0 H0 C0 cl0 fp0 Y e1 m' σ1 _ saY re1 ?_
          rw [qc]
          intro k' Z stZ saZ hk
          cases (show k = k' from hk)
          obtain ⟨z1, z2, z3⟩ := stZ.frame Dd _ (by exact nofun) y1 y2 y3
          cases k with
          | false =>
            exact iteF ⟨hlt, Z, m2, acc, av, rfl, stT.trans stZ, saZ, z1, z2, z3, (rA.stp stY).stp stZ, pU⟩
          | true =>
            refine iteT ?_
            intro s0 H0 C0 cl0 fp0 xe0 hfly
            dsimp only at pU
            cases qb : b e1 m2 with
            | stuck => rw [qb] at pU; exact (show False from pU).elim
            | exc C fs m3 =>
              rw [qb] at pU
              refine he s0 H0 C0 cl0 fp0 xe0 Z e1 m2 σ1 _ saZ (re1.stp stZ) ?_
              rw [qb]
              intro dd vs V1 stV hn saV k1 k2
              exact hfly _ _ _ _ (pU dd vs V1 ((stT.trans stZ).trans stV) ((stT.trans stZ).old dd hn) saV k1 k2)
            | ok dx m3 =>
              rw [qb] at pU
              refine he s0 H0 C0 cl0 fp0 xe0 Z e1 m2 σ1 _ saZ (re1.stp stZ) ?_
              rw [qb]
              intro vx V1 stV saV rx
              obtain ⟨w1, w2, w3⟩ := stV.frame Dd _ (by exact nofun) z1 z2 z3
              dsimp only at pU
              split at pU
              · rename_i hlen
                refine ⟨av, w1, by rw [← rA.len]; exact hlen, hlt, V1.put Dd (.lst (av ++ [vx])), m3, acc ++ [dx], av ++ [vx], rfl, ((stT.trans stZ).trans stV).hid hD, saV.hid w2 w3 (by rw [w1]; exact nofun), upd_same, w2, w3, ((((rA.stp stY).stp stZ).stp stV)).append (.cons rx .nil), pU⟩
              · exact (show False from pU).elim
    · have e : i = ds.length := by omega
      subst e
      rw [List.drop_length] at pU
      refine .inl ⟨(hJ U m' _ stU saU).2 (Nat.le_refl _), ?_⟩
      have pU : PostD X.K T (Res.ok (D.lst acc) m') Q (fun c d H => Fly X c d σ H) := pU
      exact pU (.ref Dd) (U.keep Dd (.lst av)) (stU.kept hD hU2) (saU.keep hU1 hU2 hU3 (by exact nofun)) (.lst (.inl (.inl upd_same)) (rA.mono (List.prefix_refl _) (Ext.updNew hU2)))
theorem pd_lcE (hs0 : X.stack = X.env :: X.outer) (hf0 : X.env.frame = some X.env.locals) (hi : PDI X tg iter t) (hN : X.N.Nodup) (ok : BlkOk X.N X.env.scope scope own)
    (hg : ∀ s H C cl fp, PDG (Bk X scope s H C cl fp) tg g sl) (ht : ∀ s H C cl fp, PDTs (Bk X scope s H C cl fp) ifs c) (he : ∀ s H C cl fp xe, PDE (Bx X s H scope (compEnvC scope cl C X.env) fp xe) elt b)
    (hc : X.calm = true) (hsl : ∀ i ∈ sl, i ∈ own.map (·.2) := by decide) (hs : ∀ x, foldedSetIterable iter X.env x = pure x := by intro _; rfl) :
    PDE X (.ListComp elt [⟨tg, iter, ifs, 0⟩] scope pos) (dCompE t g c b (own.map (·.2))) :=
  pd_of (pe_lcE (te := bEx X scope elt) hs0 hf0 hc hN (mxI X tg iter) ok (fun s H C cl fp => ⟨fun pins s1 σ H1 v u Q I r h => h s H C cl fp pins s1 u I r⟩) (fun s H C cl fp => ⟨fun pins s1 σ H1 Q I h => h s H C cl fp pins s1 I⟩) (fun σX s H C cl fp xe hf => ⟨fun pins s1 σ H1 Q I h => h s H C cl fp xe hf pins s1 I⟩) hs)
    fun S r m σ Q sa re p => lc_goE hi hg ht he hsl sa re p
end
end DL

/-! range(i, j) of whole numbers of any size: where they are great the iterator is another one. -/
namespace DL
open PySem PySem.Spec PyProof.Rows L2
variable [LamTab]
theorem turn_long {P : Program} {w : World} {K : PySem.W.Frag} {tg : Expr} (it : Addr) (lo : Int) (n : Nat) : Turn P w K tg (Itr lo n) [it] it (fun i h => IsLongIter h it (lo + (i : Nat) * 1) ((n : Int) - (i : Nat)) 1) where
  mem := by simp
  obj := fun i h st b hb => by
    obtain rfl : b = it := by simpa using hb
    exact ⟨_, st, fun v z => by
      have zz : Data.fields _ = Data.cell v := z
      cases zz⟩
  keep := fun i h h2 st k => k it (by simp) _ st
  item := by
    intro X hP hw hK hc i pins s σ H E I hf st hg
    subst hP hw hK
    obtain ⟨f0, f1, f2, f3, f4, f5⟩ := hf it (by simp)
    refine (Walks.longrange (prog := X.prog) (w := X.w) (I.ok.hd hc) it lo 1 n).item i s _ _ hg st fun v h2 tk hv st2 kk => ?_
    obtain ⟨t, rfl⟩ := hv
    have I2 : Inv X pins σ H { s with heap := h2, toks := tk } := I.turned (fun b o hb e => kk b o (by simpa using hb) e) f0 f1 f3 f4 f5
    refine ⟨_, rfl, go_of (s := { s with heap := h2, toks := tk }) (n := "longrange_iterator") st2 rfl rfl (by decide) ⟨.int (lo + i), H, I2, ⟨t, by rw [Int.mul_one]⟩, ⟨rfl, rfl⟩, st2, fun b hb => (hf b hb).1⟩⟩
  done := by
    intro X hP hw hK hc i pins s σ H E I hf st hg
    subst hP hw hK
    obtain ⟨f0, f1, f2, f3, f4, f5⟩ := hf it (by simp)
    exact wpAny_pyNext_long_end (I.ok.hd hc) st (by have : n ≤ i := hg; omega) fun h2 eb => ⟨rfl, I.turned (t' := s.toks) (fun b o hb e => eb b o hb e) f0 f1 f3 f4 f5⟩
  self := fun _ _ _ _ _ st h => wpAny_pyIter_longiter st h
section
variable {X : Cx} {tg : Expr}
theorem rangeA_it {pins : List (Addr × Obj)} {σ : L2.St} {H : Hp} {s : Shared} {R : It → Hp → Prop} {E : Value → Shared → Prop} {lo hi : Int} {t u v : Tok} {tk : Nat} (I : Inv X pins σ H s)
    (q : R (Itr lo (hi - lo).toNat) H) : wpAny (model X.prog X.w) X.A (pyIter (.ref s.heap.objs.size)) (PIE X pins σ tg R) E { s with heap := s.heap.push { cls := .type "range", data := .fields #[.int lo t, .int hi u, .int 1 v] }, toks := tk } := by
  have I1 : Inv X pins σ H { s with heap := s.heap.push { cls := .type "range", data := .fields #[.int lo t, .int hi u, .int 1 v] }, toks := tk } := I.kept fun b o e => Heap.get?_push_of_some _ e
  have e1 : lo + ((0 : Nat) : Int) * 1 = lo := by simp
  have e2 : (((hi - lo).toNat : Nat) : Int) - ((0 : Nat) : Int) = Builtin.Range.rangeSize lo hi 1 := by rw [rangeSize_one]; split <;> omega
  have fp : ∀ b ∈ [(s.heap.push { cls := .type "range", data := .fields #[.int lo t, .int hi u, .int 1 v] }).objs.size], FpOk X pins H b := fun b hb => by
    obtain rfl := List.mem_singleton.mp hb
    exact I1.fpOk (Nat.le_refl _) (I1.hok.fresh (Nat.le_refl _))
  cases z : Builtin.Range.small lo hi 1 with
  | true =>
    refine wpAny_pyIter_range (IsRange.new ..) z ?_
    refine ⟨_, _, _, _, H, rfl, I1.kept (t' := tk) fun b o e => Heap.get?_push_of_some _ e, turn_range _ lo (hi - lo).toNat, ?_, fp, q⟩
    show IsRangeIter _ _ (lo + ((0 : Nat) : Int) * 1) ((((hi - lo).toNat : Nat) : Int) - ((0 : Nat) : Int)) 1
    rw [e1, e2]
    exact Heap.get?_push_size _ rfl
  | false =>
    refine wpAny_pyIter_longrange (IsRange.new ..) z ?_
    refine ⟨_, _, _, _, H, rfl, I1.kept (t' := tk) fun b o e => Heap.get?_push_of_some _ e, turn_long _ lo (hi - lo).toNat, ?_, fp, q⟩
    show IsLongIter _ _ (lo + ((0 : Nat) : Int) * 1) ((((hi - lo).toNat : Nat) : Int) - ((0 : Nat) : Int)) 1
    rw [e1, e2]
    exact Heap.get?_push_size _ rfl
def iRngA (ta : TA) : TI := fun σ H R => ta σ H fun vs H1 => ∃ i j : Int, vs = [.int i, .int j] ∧ R (Itr i (j - i).toNat) H1
theorem pi_rangeA {a b : Expr} {ta : TA} {p pos : Pos} (hg : Gl X "range") (hm : X.mg "range" = none) (ha : PA X [a, b] ta) (hs : starEach [a, b] X.env = [(false, eval a X.env), (false, eval b X.env)]) (hs2 : starEach [b] X.env = [(false, eval b X.env)]) :
    PI X tg (.Call (.Name "range" p) [a, b] [] pos) (iRngA ta) := by
  refine ⟨fun pins s σ H R I h => Call_ (ld_blt I hg hm boot_range (PyProof.Rows.callWith_type1 (thn (ha.run pos pins s σ H _ I h) fun us s1 ⟨vs, H1, I1, r1, q1⟩ => ?_) (by rw [hs, hs2]) (by rw [hs2]; rfl)))⟩
  obtain ⟨i, j, rfl, q⟩ := q1
  cases r1 with
  | cons r rr =>
    cases rr with
    | cons r2 rr =>
      cases rr
      obtain ⟨t, rfl⟩ := r
      obtain ⟨t2, rfl⟩ := r2
      exact call_range_2 (rangeA_it I1 q)
end
/-- range(i, j), any whole numbers -/
def dItRA (t : DA) : DA := fun e m => (t e m).bind fun ds m1 => match ds with
  | [.int i, .int j] => .ok (rngD i (j - i).toNat) m1
  | _ => .stuck
@[simp ↓] theorem dItRA_ap (t : DA) (e : En) (m : Mu) : dItRA t e m = (t e m).bind fun ds m1 => match ds with
  | [.int i, .int j] => .ok (rngD i (j - i).toNat) m1
  | _ => .stuck := rfl
section
variable {X : Cx} {tg a b : Expr} {t : DA} {p pos : Pos}
theorem pdi_rangeA (hm : X.mg "range" = none) (ha : PDA X [a, b] t) (hg : Gl X "range" := by rfl) (hs : starEach [a, b] X.env = [(false, eval a X.env), (false, eval b X.env)] := by rfl) (hs2 : starEach [b] X.env = [(false, eval b X.env)] := by rfl) : PDI X tg (.Call (.Name "range" p) [a, b] [] pos) (dItRA t) := by
  refine pdi_of (pi_rangeA hg hm (mxA X [a, b]) hs hs2) fun S r m σ R sa re p => ?_
  refine ha S r m σ _ sa re (PostI.bindI p fun d m1 v T st sa1 rd q => ?_)
  split at q
  · obtain ⟨w, w2, rfl, hw, hw2⟩ := reps2 rd
    cases hw; cases hw2
    exact ⟨_, _, rfl, q _ T (Stp.refl T) sa1 (itr_ok _ _)⟩
  · exact q.elim
end
end DL

set_option maxHeartbeats 1000000
/-! What sleeps stays asleep: a piece of code that does not depend on how the sleeping generators would go on leaves them as they are. -/
namespace DL
open PySem PySem.Spec PyProof.Rows L2
open Sem (wp)
section
def isSusp : GenState → Bool
  | .suspended .. => true
  | _ => false
/-- it would get nowhere if it were woken -/
def deadS : GenState → GenState
  | .suspended _ l c p fs cl => .suspended (fun _ => .unsupported "") l c p fs cl
  | x => x
def retF : Frame → Bool
  | .ret .. => true
  | .gen .. => false
def okS : GenState → Prop
  | .suspended k _ _ _ fs _ => (∀ r, k r = .unsupported "") ∨ fs.all retF = true
  | _ => True
def endOk : End → Prop
  | .susp _ _ _ _ _ _ fs => fs.all retF = true
  | .ret _ => True
def backS (G0 : Array GenState) (i : Nat) (x : GenState) : GenState := match G0[i]? with
  | some y => if isSusp y = true then y else x
  | none => x
def backG (G0 G : Array GenState) : Array GenState := G.mapIdx (backS G0)
def back (G0 : Array GenState) (s : Shared) : Shared := { s with gens := backG G0 s.gens }
structure Lull (G0 : Array GenState) (s : Shared) : Prop where
  hold : ∀ (i : Nat) (y : GenState), G0[i]? = some y → isSusp y = true → s.gens[i]? = some (deadS y)
  ok : ∀ (i : Nat) (y : GenState), s.gens[i]? = some y → okS y
theorem backG_get (G0 G : Array GenState) (i : Nat) : (backG G0 G)[i]? = G[i]?.map (backS G0 i) := by
  unfold backG
  rw [Array.getElem?_mapIdx]
theorem backG_size (G0 G : Array GenState) : (backG G0 G).size = G.size := by unfold backG; simp
theorem backS_free {G0 : Array GenState} {i : Nat} {x : GenState} (h : ∀ y, G0[i]? = some y → isSusp y = false) : backS G0 i x = x := by
  unfold backS
  split
  · rename_i y e
    rw [h y e]; rfl
  · rfl
theorem deadS_susp {y : GenState} (h : isSusp y = true) : ∃ l c p fs cl, deadS y = .suspended (fun _ => .unsupported "") l c p fs cl := by
  cases y <;> first | exact ⟨_, _, _, _, _, rfl⟩ | cases h
variable {G0 : Array GenState}
theorem Lull.free {s : Shared} (L : Lull G0 s) {g : Nat} {x : GenState} (hg : s.gens[g]? = some x) (hx : ∀ l c p fs cl, x ≠ .suspended (fun _ => .unsupported "") l c p fs cl) : ∀ y, G0[g]? = some y → isSusp y = false := fun y e => by
  cases h : isSusp y with
  | false => rfl
  | true =>
    have := L.hold g y e h
    rw [hg] at this
    obtain ⟨l, c, p, fs, cl, e2⟩ := deadS_susp h
    rw [e2] at this
    exact absurd (Option.some.inj this) (hx l c p fs cl)
theorem back_get_free {s : Shared} {g : Nat} (hf : ∀ y, G0[g]? = some y → isSusp y = false) : (back G0 s).gens[g]? = s.gens[g]? := by
  show (backG G0 s.gens)[g]? = _
  rw [backG_get]
  cases s.gens[g]? with
  | none => rfl
  | some x => exact congrArg some (backS_free hf)
theorem back_setGen {s : Shared} {g : Nat} {x : GenState} (hf : ∀ y, G0[g]? = some y → isSusp y = false) : back G0 (s.setGen g x) = (back G0 s).setGen g x := by
  have : backG G0 (s.gens.setIfInBounds g x) = (backG G0 s.gens).setIfInBounds g x := by
    apply Array.ext_getElem?
    intro i
    rw [backG_get, Array.getElem?_setIfInBounds, Array.getElem?_setIfInBounds, backG_get, backG_size]
    split
    · split
      · subst_vars; exact congrArg some (backS_free hf)
      · rfl
    · rfl
  show ({ s with gens := _ } : Shared) = _
  unfold Shared.setGen back
  simp only [this]
theorem Lull.setGen {s : Shared} (L : Lull G0 s) {g : Nat} {x : GenState} (hf : ∀ y, G0[g]? = some y → isSusp y = false) (hx : okS x) : Lull G0 (s.setGen g x) where
  hold := fun i y e h => by
    have hne : g ≠ i := fun z => by subst z; rw [hf y e] at h; cases h
    show (s.gens.setIfInBounds g x)[i]? = _
    rw [Array.getElem?_setIfInBounds_ne hne]
    exact L.hold i y e h
  ok := fun i y e => by
    have e : (s.gens.setIfInBounds g x)[i]? = some y := e
    rw [Array.getElem?_setIfInBounds] at e
    split at e
    · split at e
      · cases e; exact hx
      · cases e
    · exact L.ok i y e
theorem Lull.push {s : Shared} (L : Lull G0 s) {c : Code} : Lull G0 { s with gens := s.gens.push (.fresh c) } ∧ back G0 { s with gens := s.gens.push (.fresh c) } = { back G0 s with gens := (back G0 s).gens.push (.fresh c) } := by
  have hf : ∀ y, G0[s.gens.size]? = some y → isSusp y = false := fun y e => by
    cases h : isSusp y with
    | false => rfl
    | true =>
      have := L.hold _ y e h
      rw [Array.getElem?_eq_none (Nat.le_refl _)] at this
      cases this
  refine ⟨⟨fun i y e h => ?_, fun i y e => ?_⟩, ?_⟩
  · have q := L.hold i y e h
    have hlt := (Array.getElem?_eq_some_iff.mp q).1
    show (s.gens.push (.fresh c))[i]? = _
    rw [Array.getElem?_push_lt hlt]
    rw [Array.getElem?_eq_getElem hlt] at q
    exact q
  · have e : (s.gens.push (.fresh c))[i]? = some y := e
    rw [Array.getElem?_push] at e
    split at e
    · cases e; trivial
    · exact L.ok i y e
  · have : backG G0 (s.gens.push (.fresh c)) = (backG G0 s.gens).push (.fresh c) := by
      apply Array.ext_getElem?
      intro i
      rw [backG_get, Array.getElem?_push, Array.getElem?_push, backG_get, backG_size]
      split
      · subst_vars; exact congrArg some (backS_free hf)
      · rfl
    show ({ s with gens := _ } : Shared) = _
    unfold back
    simp only [this]
theorem no_runs {M : Model} {Γ : PySem.Ctx} {p : Pos} {fs : List Frame} {s s' : Shared} {e : End} {w : String} (h : Runs M Γ p (.unsupported w) fs s e s') : False := by
  generalize ht : (Sem.unsupported w : Sem PySem.Fin) = t at h
  induction h <;> first | (cases ht; done) | (rename_i ih _; exact ih ht) | (rename_i ih; exact ih ht) | (rename_i ih _ _; exact ih ht)
theorem split_ret : ∀ {fs : List Frame}, fs.all retF = true → splitAtGen fs = none
  | [], _ => rfl
  | .ret _ _ _ _ _ _ _ :: fs, h => by
    have h : fs.all retF = true := by simpa [retF] using h
    show (splitAtGen fs).map _ = none
    rw [split_ret h]; rfl
  | .gen _ _ _ _ _ :: fs, h => by simp [retF] at h
theorem okS_end {e : End} (h : endOk e) : okS e.genState := by
  cases e with
  | ret _ => trivial
  | susp v g l k c p fs => exact .inr h

theorem Lull.stay {s s2 : Shared} (L : Lull G0 s) (e : s2.gens = s.gens) : Lull G0 s2 := ⟨fun i y h1 h2 => by rw [e]; exact L.hold i y h1 h2, fun i y h1 => L.ok i y (by rw [← e]; exact h1)⟩
theorem seen_back {s : Shared} (L : Lull G0 s) {g : Nat} {st : GenState} (h : s.gens[g]? = some st) : ∃ st', (back G0 s).gens[g]? = some st' ∧ st'.seen = st.seen := by
  refine ⟨backS G0 g st, ?_, ?_⟩
  · show (backG G0 s.gens)[g]? = _
    rw [backG_get, h]; rfl
  · unfold backS
    split
    · rename_i y e
      split
      · rename_i hs
        have := L.hold g y e hs
        rw [h] at this
        cases this
        cases y <;> rfl
      · rfl
    · rfl
theorem runs_back {M : Model} {Γ : PySem.Ctx} {p : Pos} {t : Sem PySem.Fin} {fs : List Frame} {s s' : Shared} {e : End} (h : Runs M Γ p t fs s e s') : fs.all retF = true → Lull G0 s → Lull G0 s' ∧ endOk e ∧ Runs M Γ p t fs (back G0 s) e (back G0 s') := by
  induction h with
  | done => exact fun _ L => ⟨L, trivial, .done⟩
  | raise => exact fun _ L => ⟨L, trivial, .raise⟩
  | again hq _ ih => exact fun hf L => let ⟨a, b, c⟩ := ih hf L; ⟨a, b, .again hq c⟩
  | rule _ ih => exact fun hf L => let ⟨a, b, c⟩ := ih hf L; ⟨a, b, .rule c⟩
  | «at» _ ih => exact fun hf L => let ⟨a, b, c⟩ := ih hf L; ⟨a, b, .at c⟩
  | load ho _ ih => exact fun hf L => let ⟨a, b, c⟩ := ih hf L; ⟨a, b, .load ho c⟩
  | update ho _ ih => exact fun hf L => let ⟨a, b, c⟩ := ih hf (L.stay rfl); ⟨a, b, .update ho c⟩
  | loadIfAlive _ ih => exact fun hf L => let ⟨a, b, c⟩ := ih hf L; ⟨a, b, .loadIfAlive c⟩
  | point _ ih => exact fun hf L => let ⟨a, b, c⟩ := ih hf L; ⟨a, b, .point c⟩
  | alloc _ ih => exact fun hf L => let ⟨a, b, c⟩ := ih hf (L.stay rfl); ⟨a, b, .alloc c⟩
  | fresh _ ih => exact fun hf L => let ⟨a, b, c⟩ := ih hf (L.stay rfl); ⟨a, b, .fresh c⟩
  | ask _ ih => exact fun hf L => let ⟨a, b, c⟩ := ih hf L; ⟨a, b, .ask c⟩
  | choose hn _ ih => exact fun hf L => let ⟨a, b, c⟩ := ih hf (L.stay rfl); ⟨a, b, .choose hn c⟩
  | os _ ih => exact fun hf L => let ⟨a, b, c⟩ := ih hf (L.stay rfl); ⟨a, b, .os c⟩
  | handled _ ih => exact fun hf L => let ⟨a, b, c⟩ := ih hf L; ⟨a, b, .handled c⟩
  | genState hg _ ih =>
    exact fun hf L => by
      obtain ⟨a, b, c⟩ := ih hf L
      obtain ⟨st', h1, h2⟩ := seen_back L hg
      exact ⟨a, b, .genState h1 (by rw [h2]; exact c)⟩
  | stack _ ih => exact fun hf L => let ⟨a, b, c⟩ := ih hf L; ⟨a, b, .stack c⟩
  | thread _ ih => exact fun hf L => let ⟨a, b, c⟩ := ih hf L; ⟨a, b, .thread c⟩
  | newGen _ ih =>
    exact fun hf L => by
      obtain ⟨L2, e2⟩ := L.push
      obtain ⟨a, b, c⟩ := ih hf L2
      rw [e2] at c
      refine ⟨a, b, .newGen ?_⟩
      rw [show (back G0 _).gens.size = _ from backG_size _ _]
      exact c
  | call _ _ ih1 ih2 =>
    exact fun hf L => by
      obtain ⟨a, _, c⟩ := ih1 rfl L
      obtain ⟨a2, b2, c2⟩ := ih2 hf a
      exact ⟨a2, b2, .call c c2⟩
  | callSusp _ ih =>
    exact fun hf L => by
      obtain ⟨a, b, c⟩ := ih rfl L
      refine ⟨a, ?_, .callSusp c⟩
      show List.all (_ ++ _) retF = true
      rw [List.all_append, show List.all _ retF = true from b]
      rfl
  | yield => exact fun _ L => ⟨L, rfl, .yield⟩
  | resumeFresh hg _ hq _ ih1 ih2 =>
    exact fun hf L => by
      have fr := L.free hg (by intros; exact nofun)
      obtain ⟨a, b, c⟩ := ih1 rfl (L.setGen fr (x := .running) trivial)
      obtain ⟨a2, b2, c2⟩ := ih2 hf (a.setGen fr (okS_end b))
      rw [back_setGen fr] at c c2
      exact ⟨a2, b2, .resumeFresh (by rw [back_get_free fr]; exact hg) c hq c2⟩
  | resumeSuspended hg h1 hq _ ih1 ih2 =>
    exact fun hf L => by
      have ok := L.ok _ _ hg
      rcases ok with ok | ok
      · rw [ok] at h1
        exact (no_runs h1).elim
      · have fr := L.free hg (by
          intro l c p fs cl z
          cases z
          exact no_runs h1)
        obtain ⟨a, b, c⟩ := ih1 ok (L.setGen fr (x := .running) trivial)
        obtain ⟨a2, b2, c2⟩ := ih2 hf (a.setGen fr (okS_end b))
        rw [back_setGen fr] at c c2
        exact ⟨a2, b2, .resumeSuspended (by rw [back_get_free fr]; exact hg) c hq c2⟩
  | resumeJustStarted hg hv _ ih =>
    exact fun hf L => by
      have fr := L.free hg (by intros; exact nofun)
      obtain ⟨a, b, c⟩ := ih hf L
      exact ⟨a, b, .resumeJustStarted (by rw [back_get_free fr]; exact hg) hv c⟩
  | resumeThrowFresh hg _ ih =>
    exact fun hf L => by
      have fr := L.free hg (by intros; exact nofun)
      obtain ⟨a, b, c⟩ := ih hf (L.setGen fr (x := .finished) trivial)
      rw [back_setGen fr] at c
      exact ⟨a, b, .resumeThrowFresh (by rw [back_get_free fr]; exact hg) c⟩
  | resumeRunning hg _ ih =>
    exact fun hf L => by
      have fr := L.free hg (by intros; exact nofun)
      obtain ⟨a, b, c⟩ := ih hf L
      exact ⟨a, b, .resumeRunning (by rw [back_get_free fr]; exact hg) c⟩
  | resumeFinished hg _ ih =>
    exact fun hf L => by
      have fr := L.free hg (by intros; exact nofun)
      obtain ⟨a, b, c⟩ := ih hf L
      exact ⟨a, b, .resumeFinished (by rw [back_get_free fr]; exact hg) c⟩
  | segRet _ _ ih1 ih2 =>
    exact fun hf L => by
      obtain ⟨a, b, c⟩ := ih1 rfl L
      obtain ⟨a2, b2, c2⟩ := ih2 (by simpa [retF] using hf) a
      exact ⟨a2, b2, .segRet c c2⟩
  | segGen _ _ ih1 ih2 => exact fun hf L => by simp [retF] at hf
  | segSuspOut hs _ ih =>
    exact fun hf L => by
      obtain ⟨a, b, c⟩ := ih rfl L
      refine ⟨a, ?_, .segSuspOut hs c⟩
      show List.all (_ ++ _) retF = true
      rw [List.all_append, show List.all _ retF = true from b, hf]
      rfl
  | segSuspGen hs _ _ _ ih1 ih2 => exact fun hf L => by rw [split_ret hf] at hs; cases hs
theorem wakes_back {M : Model} {Γ : PySem.Ctx} {p : Pos} {g : Nat} {r : Resume} {s s' : Shared} {res : GenResult} (h : Wakes M Γ p g r s res s') (L : Lull G0 s) : Lull G0 s' ∧ Wakes M Γ p g r (back G0 s) res (back G0 s') := by
  unfold Wakes at h
  split at h
  · exact h.elim
  · rename_i c hg
    have fr := L.free hg (by intros; exact nofun)
    have hg' := (back_get_free (s := s) fr).trans hg
    split at h
    · obtain ⟨e1, s1, hr, hq, h2, rfl⟩ := h
      obtain ⟨a, b, c⟩ := runs_back hr rfl (L.setGen fr (x := .running) trivial)
      rw [back_setGen fr] at c
      refine ⟨a.setGen fr (okS_end b), ?_⟩
      unfold Wakes
      rw [hg']
      exact ⟨e1, _, c, hq, h2, back_setGen fr⟩
    · rename_i v hv
      obtain ⟨h1, rfl⟩ := h
      refine ⟨L, ?_⟩
      unfold Wakes
      rw [hg']
      cases v <;> first | exact ⟨h1, rfl⟩ | exact (hv rfl).elim
    · obtain ⟨h1, rfl⟩ := h
      refine ⟨L.setGen fr (x := .finished) trivial, ?_⟩
      unfold Wakes
      rw [hg']
      exact ⟨h1, back_setGen fr⟩
  · rename_i k0 l0 c0 p0 fs cl hg
    obtain ⟨e1, s1, hr, hq, h2, rfl⟩ := h
    rcases L.ok _ _ hg with ok | ok
    · rw [ok] at hr
      exact (no_runs hr).elim
    · have fr := L.free hg (by
        intro l c p fs cl z
        cases z
        exact no_runs hr)
      obtain ⟨a, b, c⟩ := runs_back hr ok (L.setGen fr (x := .running) trivial)
      rw [back_setGen fr] at c
      refine ⟨a.setGen fr (okS_end b), ?_⟩
      unfold Wakes
      rw [back_get_free fr, hg]
      exact ⟨e1, _, c, hq, h2, back_setGen fr⟩
  · rename_i hg
    have fr := L.free hg (by intros; exact nofun)
    obtain ⟨h1, rfl⟩ := h
    refine ⟨L, ?_⟩
    unfold Wakes
    rw [back_get_free fr, hg]
    exact ⟨h1, rfl⟩
  · rename_i hg
    have fr := L.free hg (by intros; exact nofun)
    obtain ⟨h1, rfl⟩ := h
    refine ⟨L, ?_⟩
    unfold Wakes
    rw [back_get_free fr, hg]
    exact ⟨h1, rfl⟩
theorem wp_back {α : Type} (M : Model) (Γ : PySem.Ctx) (t : Sem α) : ∀ (Q : α → Pos → Shared → Prop) (E : Value → Pos → Shared → Prop) (p : Pos) (s : Shared), Lull G0 s → wp M Γ t Q E p s →
    wp M Γ t (fun a p' s' => ∃ s1, s' = back G0 s1 ∧ Lull G0 s1 ∧ Q a p' s1) (fun e p' s' => ∃ s1, s' = back G0 s1 ∧ Lull G0 s1 ∧ E e p' s1) p (back G0 s) := by
  induction t with
  | pure a => intro Q E p s L h; exact ⟨s, rfl, L, h⟩
  | raise e => intro Q E p s L h; exact ⟨s, rfl, L, h⟩
  | unsupported _ => intro Q E p s _ h; exact h
  | finish _ => intro Q E p s _ h; exact h
  | rule _ k ih => intro Q E p s L h; exact ih () Q E p s L h
  | «at» p' k ih => intro Q E p s L h; exact ih () Q E p' s L h
  | load a _ k ih => intro Q E p s L h; obtain ⟨o, ho, h⟩ := h; exact ⟨o, ho, ih o Q E p s L h⟩
  | update a _ f k ih => intro Q E p s L h; exact ⟨h.1, ih () Q E p { s with heap := s.heap.update a f } (L.stay rfl) h.2⟩
  | loadIfAlive a k ih => intro Q E p s L h; exact ih _ Q E p s L h
  | point _ k ih => intro Q E p s L h; exact ih () Q E p s L h
  | register _ _ => intro Q E p s _ h; exact h
  | alloc o k ih => intro Q E p s L h; exact ih _ Q E p { s with heap := s.heap.push o } (L.stay rfl) h
  | fresh k ih => intro Q E p s L h; exact ih _ Q E p { s with toks := s.toks + 1 } (L.stay rfl) h
  | ask k ih => intro Q E p s L h; exact ih _ Q E p s L h
  | choose src m k ih => intro Q E p s L h; exact ⟨h.1, ih _ Q E p { s with drawn := s.drawn.bump src } (L.stay rfl) h.2⟩
  | os q _ k ih => intro Q E p s L h; exact ih _ Q E p { s with os := (Os.step s.os q).1 } (L.stay rfl) h
  | call c hd _ _ k ih =>
    intro Q E p s L h
    obtain ⟨r, s', hr, h⟩ := h
    obtain ⟨a, _, c⟩ := runs_back hr rfl L
    exact ⟨r, _, c, ih r Q E p s' a h⟩
  | handled own k ih => intro Q E p s L h; exact ih _ Q E p s L h
  | genState g k ih =>
    intro Q E p s L h
    obtain ⟨st, hs, h⟩ := h
    obtain ⟨st', h1, h2⟩ := seen_back L hs
    exact ⟨st', h1, by rw [h2]; exact ih _ Q E p s L h⟩
  | newGen c k ih =>
    intro Q E p s L h
    obtain ⟨L2, e2⟩ := L.push (c := c)
    have := ih _ Q E p _ L2 h
    rw [e2] at this
    show wp M Γ (k (back G0 s).gens.size) _ _ p _
    rw [show (back G0 s).gens.size = s.gens.size from backG_size _ _]
    exact this
  | resume g r _ k ih =>
    intro Q E p s L h
    obtain ⟨res, s', hw, h⟩ := h
    obtain ⟨a, b⟩ := wakes_back hw L
    exact ⟨res, _, b, ih res Q E p s' a h⟩
  | yield _ _ _ _ => intro Q E p s _ h; exact h
  | stack k ih => intro Q E p s L h; exact ih _ Q E p s L h
  | fork _ _ => intro Q E p s _ h; exact h
  | thread k ih => intro Q E p s L h; exact ih _ Q E p s L h
  | await _ _ _ _ _ => intro Q E p s _ h; exact h
/-- all that sleeps, made such that it would get nowhere -/
def lull (s : Shared) : Shared := { s with gens := s.gens.map deadS }
theorem lull_lull (s : Shared) : Lull s.gens (lull s) where
  hold := fun i y e h => by
    show (s.gens.map deadS)[i]? = _
    rw [Array.getElem?_map, e]; rfl
  ok := fun i y e => by
    have e : (s.gens.map deadS)[i]? = some y := e
    rw [Array.getElem?_map] at e
    cases h : s.gens[i]? with
    | none => rw [h] at e; cases e
    | some x =>
      rw [h] at e
      cases e
      cases x <;> first | exact .inl (fun _ => rfl) | trivial
theorem back_lull (s : Shared) : back s.gens (lull s) = s := by
  have : backG s.gens (s.gens.map deadS) = s.gens := by
    apply Array.ext_getElem?
    intro i
    rw [backG_get, Array.getElem?_map]
    cases h : s.gens[i]? with
    | none => rfl
    | some x =>
      refine congrArg some ?_
      unfold backS
      rw [h]
      cases x <;> rfl
  show ({ s with gens := _ } : Shared) = s
  show ({ s with gens := backG s.gens (s.gens.map deadS) } : Shared) = s
  rw [this]
/-- THE RULE: where a piece of code does what it does though all that sleeps would get nowhere, it does so and all sleeps on -/
theorem wpAny_lull {α : Type} {M : Model} {A : Around} {s : Shared} {t : Sem α} {Q : α → Shared → Prop} {E : Value → Shared → Prop} (h : wpAny M A t Q E (lull s)) :
    wpAny M A t (fun a s' => ∃ s1, s' = back s.gens s1 ∧ Lull s.gens s1 ∧ Q a s1) (fun e s' => ∃ s1, s' = back s.gens s1 ∧ Lull s.gens s1 ∧ E e s1) s := by
  intro Γ p hΓ
  have := wp_back M Γ t _ _ p (lull s) (lull_lull s) (h Γ p hΓ)
  rw [back_lull] at this
  exact this
theorem bare_lull {s : Shared} (h : AllBare s.gens) : AllBare (lull s).gens := fun y hy => by
  have hy : y ∈ s.gens.map deadS := hy
  obtain ⟨x, hx, rfl⟩ := Array.mem_map.mp hy
  have := h x hx
  cases x <;> exact this
theorem bare_back {G0 : Array GenState} {s : Shared} (h0 : AllBare G0) (h : AllBare s.gens) : AllBare (back G0 s).gens := fun y hy => by
  have hy : y ∈ backG G0 s.gens := hy
  obtain ⟨i, hi⟩ := Array.mem_iff_getElem?.mp hy
  rw [backG_get] at hi
  cases e : s.gens[i]? with
  | none => rw [e] at hi; cases hi
  | some x =>
    rw [e] at hi
    cases hi
    unfold backS
    split
    · rename_i z ez
      split
      · exact h0 z (Array.mem_of_getElem? ez)
      · exact h x (Array.mem_of_getElem? e)
    · exact h x (Array.mem_of_getElem? e)
/-- all that slept sleeps -/
def Slp (s s' : Shared) : Prop := ∀ (i : Nat) (y : GenState), s.gens[i]? = some y → isSusp y = true → s'.gens[i]? = some y
theorem slp_back {s s1 : Shared} (L : Lull s.gens s1) : Slp s (back s.gens s1) := fun i y e h => by
  show (backG s.gens s1.gens)[i]? = _
  rw [backG_get, L.hold i y e h]
  refine congrArg some ?_
  unfold backS
  rw [e]
  exact if_pos h
theorem Slp.refl (s : Shared) : Slp s s := fun _ _ e _ => e
theorem Slp.trans {a b c : Shared} (h : Slp a b) (k : Slp b c) : Slp a c := fun i y e z => k i y (h i y e z) z
end
end DL

set_option maxHeartbeats 1000000
/-! Walks whose iterator is a sleeping generator: comprehensions over them. -/
namespace DL
open PySem PySem.Spec PyProof.Rows L2
open Sem (wp)
/-- as Turn, the iterator's state being one of the whole machine, its objects may become more -/
structure TurnS (P : Program) (w : World) (K : PySem.W.Frag) (A0 : Around) (tg : Expr) (J : It) (it : Addr) (tn : Nat → List Addr → Shared → Prop) : Prop where
  obj : ∀ i fp s, tn i fp s → ∀ b ∈ fp, ∃ o, s.heap.get? b = some o ∧ ∀ v, o.data ≠ .cell v
  keep0 : ∀ fp s s', tn 0 fp s → (∀ b ∈ fp, ∀ o, s.heap.get? b = some o → s'.heap.get? b = some o) → s'.gens = s.gens → tn 0 fp s'
  keep : ∀ i fp s s', tn (i + 1) fp s → (∀ b ∈ fp, ∀ o, s.heap.get? b = some o → s'.heap.get? b = some o) → Slp s s' → tn (i + 1) fp s'
  item : ∀ (X : Cx), X.prog = P → X.w = w → X.K = K → X.calm = true → X.A = A0 → ∀ (i : Nat) (fp : List Addr) (pins : List (Addr × Obj)) (s : Shared) (σ : L2.St) (H : Hp) (E : Value → Shared → Prop), Inv X pins σ H s → (∀ b ∈ fp, FpOk X pins H b) → tn i fp s → J.go i H →
    wpAny (model P w) X.A (pyNext (.ref it)) (fun r s1 => ∃ u, r = some u ∧
      wpAny (model P w) X.A (letOwnedTupleGo tg (.ref it) u) (fun _ s2 => ∃ x H' fp', Inv X pins σ H' s2 ∧ RelV x u ∧ J.yld i H x H' ∧ tn (i + 1) fp' s2 ∧ ∀ b ∈ fp', FpOk X pins H' b) E s1) E s
  done : ∀ (X : Cx), X.prog = P → X.w = w → X.K = K → X.calm = true → X.A = A0 → ∀ (i : Nat) (fp : List Addr) (pins : List (Addr × Obj)) (s : Shared) (σ : L2.St) (H : Hp) (E : Value → Shared → Prop), Inv X pins σ H s → (∀ b ∈ fp, FpOk X pins H b) → tn i fp s → J.stop i H →
    wpAny (model P w) X.A (pyNext (.ref it)) (fun r s1 => r = none ∧ Inv X pins σ H s1) E s
  self : ∀ (A : Around) (fp : List Addr) (s : Shared) (Q : Value → Shared → Prop) (E : Value → Shared → Prop), tn 0 fp s → Q (.ref it) s → wpAny (model P w) A (pyIter (.ref it)) Q E s
def PISE (X : Cx) (pins : List (Addr × Obj)) (σ : L2.St) (tg : Expr) (R : It → Hp → Prop) (itv : Value) (s2 : Shared) : Prop :=
  ∃ (it : Addr) (fp : List Addr) (tn : Nat → List Addr → Shared → Prop) (J : It) (H' : Hp), itv = .ref it ∧ Inv X pins σ H' s2 ∧ TurnS X.prog X.w X.K X.A tg J it tn ∧ tn 0 fp s2 ∧ (∀ b ∈ fp, FpOk X pins H' b) ∧ R J H'
structure PIS (X : Cx) (tg iter : Expr) (wi : TI) : Prop where
  run : ∀ (pins : List (Addr × Obj)) (s : Shared) (σ : L2.St) (H : Hp) (R : It → Hp → Prop), Inv X pins σ H s → wi σ H R →
    wpAny (model X.prog X.w) X.A (eval iter X.env) (fun v s1 => wpAny (model X.prog X.w) X.A (pyIter v) (PISE X pins σ tg R) X.xe s1) X.xe s
theorem inv_gens {X : Cx} {pins : List (Addr × Obj)} {σ : L2.St} {H : Hp} {s : Shared} (I : Inv X pins σ H s) {G : Array GenState} (hG : AllBare G) : Inv X pins σ H { s with gens := G } :=
  ⟨I.ok, I.os, hG, I.base, I.loc, I.cell, I.free, I.freeC, I.pin, I.hok, I.len⟩
theorem thnL {α : Type} {M : Model} {A : Around} {s : Shared} {t : Sem α} {Q Q' : α → Shared → Prop} {E : Value → Shared → Prop} (h : wpAny M A t Q (fun _ _ => False) (lull s)) (hQ : ∀ a s1, Q a s1 → Slp s (back s.gens s1) → Q' a (back s.gens s1)) : wpAny M A t Q' E s :=
  wpAny_mono (wpAny_lull h) (fun a s' ⟨s1, e, L, q⟩ => by subst e; exact hQ a s1 q (slp_back L)) fun e s' ⟨_, _, _, z⟩ => z.elim
section
variable {X : Cx}
theorem lc_coreS {pins : List (Addr × Obj)} {s : Shared} {σ : L2.St} {H : Hp} {Q : VK} {elt tg iter : Expr} {ifs : List Expr} {scope : Scope} {own : List (Str × Nat)} {pos pos' : Pos} {wi : TI} {g : TG} {tt : TT} {te : TE} {use : Option (Value → Sem Unit)} {Qf : Value → Shared → Prop}
    (hc : X.calm = true) (hN : X.N.Nodup) (I : Inv X pins σ H s) (hi : PIS X tg iter wi) (ok : BlkOk X.N X.env.scope scope own)
    (hg : ∀ (s : Shared) (H : Hp) (C : Addr) (cl : List (Str × Addr)) (fp : List Addr), PG (X.blk s H scope (compEnvC scope cl C X.env) fp) tg g) (ht : ∀ (s : Shared) (H : Hp) (C : Addr) (cl : List (Str × Addr)) (fp : List Addr), PTs (X.blk s H scope (compEnvC scope cl C X.env) fp) ifs tt)
    (he : ∀ (s : Shared) (H : Hp) (C : Addr) (cl : List (Str × Addr)) (fp : List Addr), PE (X.blk s H scope (compEnvC scope cl C X.env) fp) elt te) (hs : ∀ x, foldedSetIterable iter X.env x = pure x)
    (h : tLc wi g tt te (own.map (·.2)) σ H Q)
    (hRR : ∀ D C s' m H', Inv X pins σ H' s' → Q (.ref D) H' → s'.heap.Ns C m → FpOk X pins H' C → compPost (model X.prog X.w) X.A X.xe use Qf (.ref D) C (.ok .next) s') :
    wpAny (model X.prog X.w) X.A (comprehension (.ListComp elt [⟨tg, iter, ifs, 0⟩] scope pos) scope X.env pos' (newList []) false (eval iter X.env) use) Qf X.xe s := by
  have hfree : ∀ y ∈ scope.names, y.2 = .free → ∃ c, X.env.cells.lookup y.1 = some c := fun y hy e => by
    rcases ok.free y hy e with k | k
    · exact I.ok.has _ (.inl k)
    · exact I.ok.has _ (.inr k)
  refine wpAny_comprehension_free (use := use) rfl hs (closure_ok hfree) ok.kind (fun y hy e => by rw [ok.uniq y hy, e])
    (thn (hi.run pins s σ H _ I h) fun xv s1 hx => thn hx fun itv s2 h2 => ?_)
  obtain ⟨it, fp, tn, J, H2, e, I2, T, st2, f2, q⟩ := h2
  subst e
  refine wpAny_newObj_type (newEnv_comp ?_) (by show 0 ≤ sizeLine; decide)
  generalize hD : s2.heap.objs.size = D
  have hDn : H2 D = none := I2.hok.fresh (Nat.le_of_eq hD)
  obtain ⟨W, ⟨m0, w0⟩, turn⟩ := q D hDn
  -- the new list
  generalize hs3 : ({ s2 with heap := s2.heap.push { cls := .type "list", data := .seq ([] : List Value).toArray } } : Shared) = s3
  have I3 : Inv X pins σ (upd H2 D (.lst [])) s3 := by
    rw [← hs3]
    refine I2.laid (t' := s2.toks) (fun b o e => Heap.get?_push_of_some _ e) (Nat.le_of_eq hD) ⟨Nat.zero_le _, [], 0, .nil, ?_⟩
    rw [← hD]
    exact Heap.get?_push_size _ rfl
  have h3 : s3.heap = s2.heap.push { cls := .type "list", data := .seq ([] : List Value).toArray } := by rw [← hs3]
  have sz : ∀ b ∈ fp, b < s2.heap.objs.size := fun b hb => by
    obtain ⟨o, e, _⟩ := T.obj _ _ _ st2 b hb
    exact Heap.lt_size e
  have f3 : ∀ b ∈ fp, FpOk X pins (upd H2 D (.lst [])) b ∧ b < s3.heap.objs.size := fun b hb => by
    have hlt := sz b hb
    refine ⟨⟨?_, (f2 b hb).2⟩, by rw [h3, Heap.size_push]; exact Nat.lt_succ_of_lt hlt⟩
    rw [upd_ne (by rw [← hD]; exact Nat.ne_of_lt hlt)]
    exact (f2 b hb).1
  have st3 : tn 0 fp s3 := T.keep0 _ _ _ st2 (fun b _ o e => by rw [h3]; exact Heap.get?_push_of_some _ e) (by rw [← hs3])
  have I4 := block_start I3 ok hN f3
  have pg := hg s3 (upd H2 D (.lst [])) s3.heap.objs.size (cellsFrom (s3.heap.objs.size + 1) scope.names (cloFrom X.env.cells scope.names [])) fp
  have pt := ht s3 (upd H2 D (.lst [])) s3.heap.objs.size (cellsFrom (s3.heap.objs.size + 1) scope.names (cloFrom X.env.cells scope.names [])) fp
  have pe := he s3 (upd H2 D (.lst [])) s3.heap.objs.size (cellsFrom (s3.heap.objs.size + 1) scope.names (cloFrom X.env.cells scope.names [])) fp
  show codeAny _ _ (.compStart (.ListComp elt [⟨tg, iter, ifs, 0⟩] scope pos) 0 (.ref it) (.ref D) (compEnvC scope (cellsFrom (s3.heap.objs.size + 1) scope.names (cloFrom X.env.cells scope.names [])) s3.heap.objs.size X.env)) (compPost (model X.prog X.w) X.A X.xe use Qf (.ref D) s3.heap.objs.size) { s3 with heap := pushCells (s3.heap.push { cls := .type "dict", data := .dict #[] }) scope.names }
  have nfp : ∀ b ∈ fp, (upd H2 D (.lst [])) b = none := fun b hb => (f3 b hb).1.1
  generalize hce : compEnvC scope (cellsFrom (s3.heap.objs.size + 1) scope.names (cloFrom X.env.cells scope.names [])) s3.heap.objs.size X.env = ce at I4 pg pt pe ⊢
  have cL : ce.locals = s3.heap.objs.size := by subst hce; rfl
  generalize hH3 : upd H2 D (.lst []) = H3 at I3 I4 pg pt pe w0 nfp f3
  generalize hs4 : ({ s3 with heap := pushCells (s3.heap.push { cls := .type "dict", data := .dict #[] }) scope.names } : Shared) = s4 at I4 ⊢
  have st4 : tn 0 fp s4 := T.keep0 _ _ _ st3 (fun b _ o e => by rw [← hs4]; exact pushCells_keeps _ _ _ _ (Heap.get?_push_of_some _ e)) (by rw [← hs4])
  have stat : ∀ {σ' : L2.St} {H' : Hp} {s' : Shared}, Inv (X.blk s3 H3 scope ce fp) [] σ' H' s' → (∀ b ∈ fp, H' b = none) → ∀ b ∈ fp, FpOk (X.blk s3 H3 scope ce fp) [] H' b := fun {σ' H' s'} I' hn b hb =>
    ⟨hn b hb, (I'.ok.exf b hb).1, I'.ok.exfs b hb, .inl hb, fun x c e => (I'.ok.exf b hb).2 x c e, fun p hp => absurd (show p ∈ ([] : List (Addr × Obj)) ++ [] from hp) (by simp)⟩
  have loop : codeAny (model X.prog X.w) X.A (.compLoop (.ListComp elt [⟨tg, iter, ifs, 0⟩] scope pos) 0 (.ref it) (.ref D) ce) (compPost (model X.prog X.w) X.A X.xe use Qf (.ref D) s3.heap.objs.size) s4 := by
    refine compLoop_any (fun n s' => ∃ i fpi H', Inv (X.blk s3 H3 scope ce fp) [] (wipe σ (own.map (·.2))) H' s' ∧ tn i fpi s' ∧ (∀ b ∈ fpi, FpOk (X.blk s3 H3 scope ce fp) [] H' b) ∧ W i n H') ?_ m0 ⟨0, fp, H3, I4, st4, stat I4 nfp, w0⟩
    rintro n s5 ⟨i, fp5, H5, I5, st5, n5, w5⟩
    rcases turn i n H5 w5 with ⟨stop, qq⟩ | ⟨go, Nx, hNx, step⟩
    · have td := T.done (X.blk s3 H3 scope ce fp) rfl rfl rfl hc rfl i fp5 [] s5 _ H5 (fun _ _ => False) I5 n5 st5 stop
      refine thnF td fun r s6 ⟨hr, I6⟩ => ?_
      subst hr
      -- back in the def's context
      have I7 : Inv X pins σ H5 s6 := I3.call' (ch := fp) I6.os I6.base I6.hok I6.bare fun b hb => ⟨(f3 b hb).1.2.2.2.1, (f3 b hb).1.2.1, (f3 b hb).1.2.2.2.2.1, (f3 b hb).1.2.2.2.2.2⟩
      have nC : H5 s3.heap.objs.size = none := by
        have z : H5 ce.locals = none := I6.free
        rw [cL] at z
        exact z
      obtain ⟨m, hn, _⟩ := I6.loc
      have hn : s6.heap.Ns ce.locals m := hn
      rw [cL] at hn
      exact hRR D s3.heap.objs.size s6 m H5 I7 qq hn (I3.fpOk (Nat.le_refl _) nC)
    · have ti := T.item (X.blk s3 H3 scope ce fp) rfl rfl rfl hc rfl i fp5 [] s5 _ H5 (fun _ _ => False) I5 n5 st5 go
      refine thnF ti fun r s6 ⟨u, hr, h6⟩ => ?_
      subst hr
      refine thnF h6 fun _ s7 ⟨x, H7, fp7, I7, r7, y7, st7, n7⟩ => ?_
      have I7' := I7.pinned n7 (T.obj _ _ _ st7)
      have b7 := I7.bare
      refine thnL (pg.run _ (lull s7) _ H7 x u _ (inv_gens I7' (bare_lull b7)) r7 (step x H7 y7)) fun _ s8' ⟨σ8, H8, I8, hw8, q8⟩ l8 => ?_
      have b8 := bare_back b7 I8.bare
      replace I8 := inv_gens I8 b8
      have I8 : Inv (X.blk s3 H3 scope ce fp) ([] ++ pinsAt fp7 s7.heap) σ8 H8 (back s7.gens s8') := I8
      generalize back s7.gens s8' = s8 at I8 b8 l8 ⊢
      refine thnL (pt.run _ (lull s8) σ8 H8 _ (inv_gens I8 (bare_lull b8)) q8) fun b s9' ⟨H9, I9, q9⟩ l9 => ?_
      have b9 := bare_back b8 I9.bare
      replace I9 := inv_gens I9 b9
      have I9 : Inv (X.blk s3 H3 scope ce fp) ([] ++ pinsAt fp7 s7.heap) σ8 H9 (back s8.gens s9') := I9
      generalize back s8.gens s9' = s9 at I9 b9 l9 ⊢
      -- the turn's end
      have fin : ∀ {s' : Shared} {H' : Hp}, Inv (X.blk s3 H3 scope ce fp) ([] ++ pinsAt fp7 s7.heap) σ8 H' s' → Slp s7 s' → Nx H' → ∃ m, m < n ∧ ∃ i fpi H', Inv (X.blk s3 H3 scope ce fp) [] (wipe σ (own.map (·.2))) H' s' ∧ tn i fpi s' ∧ (∀ b ∈ fpi, FpOk (X.blk s3 H3 scope ce fp) [] H' b) ∧ W i m H' := fun {s' H'} I' sl nx => by
        obtain ⟨m', hm, w'⟩ := hNx H' nx
        have pin' : ∀ b ∈ fp7, ∀ o, s7.heap.get? b = some o → s'.heap.get? b = some o ∧ H' b = none := fun b hb o e =>
          let z := I'.pin (b, o) (List.mem_append_right _ (List.mem_append_right _ (mem_pinsAt hb e)))
          ⟨z.1, z.2.1⟩
        have hl : (wipe σ (own.map (·.2))).length = σ8.length := by rw [← hw8, wipe_length]
        refine ⟨m', hm, i + 1, fp7, H', (I'.unpinned (pins := [])).weak hl (fun j v e => ?_), T.keep _ _ _ _ st7 (fun b hb o e => (pin' b hb o e).1) sl, fun b hb => ⟨?_, (n7 b hb).2⟩, w'⟩
        · rw [← hw8] at e
          exact (wipe_some e).1
        · obtain ⟨o, e, _⟩ := T.obj _ _ _ st7 b hb
          exact (pin' b hb o e).2
      cases b with
      | false =>
        simp only [Bool.false_eq_true, if_false] at q9 ⊢
        exact fin I9 (l8.trans l9) q9
      | true =>
        simp only [if_true] at q9 ⊢
        refine thnL (pe.run _ (lull s9) σ8 H9 _ (inv_gens I9 (bare_lull b9)) q9) fun z s10' ⟨yv, H10, I10, r10, acc, hD10, hz10, nx⟩ l10 => ?_
        have b10 := bare_back b9 I10.bare
        replace I10 := inv_gens I10 b10
        have I10 : Inv (X.blk s3 H3 scope ce fp) ([] ++ pinsAt fp7 s7.heap) σ8 H10 (back s9.gens s10') := I10
        generalize back s9.gens s10' = s10 at I10 b10 l10 ⊢
        refine thnL (app_ok (X := X.blk s3 H3 scope ce fp) (Q := fun _ s' => Inv (X.blk s3 H3 scope ce fp) ([] ++ pinsAt fp7 s7.heap) σ8 (upd H10 D (.lst (acc ++ [yv]))) s') (inv_gens I10 (bare_lull b10)) hD10 hz10 r10 fun s11 I11 => I11) fun _ s11' I11 l11 => ?_
        exact fin (inv_gens I11 (bare_back b10 I11.bare)) (((l8.trans l9).trans l10).trans l11) nx
  exact codeAny_compStart_list loop (T.self X.A fp _ _ _ st4 loop)
theorem pe_lcS {elt tg iter : Expr} {ifs : List Expr} {scope : Scope} {own : List (Str × Nat)} {pos : Pos} {wi : TI} {g : TG} {tt : TT} {te : TE} (hc : X.calm = true) (hN : X.N.Nodup) (hi : PIS X tg iter wi) (ok : BlkOk X.N X.env.scope scope own)
    (hg : ∀ (s : Shared) (H : Hp) (C : Addr) (cl : List (Str × Addr)) (fp : List Addr), PG (X.blk s H scope (compEnvC scope cl C X.env) fp) tg g) (ht : ∀ (s : Shared) (H : Hp) (C : Addr) (cl : List (Str × Addr)) (fp : List Addr), PTs (X.blk s H scope (compEnvC scope cl C X.env) fp) ifs tt)
    (he : ∀ (s : Shared) (H : Hp) (C : Addr) (cl : List (Str × Addr)) (fp : List Addr), PE (X.blk s H scope (compEnvC scope cl C X.env) fp) elt te) (hs : ∀ x, foldedSetIterable iter X.env x = pure x := by intro _; rfl) :
    PE X (.ListComp elt [⟨tg, iter, ifs, 0⟩] scope pos) (tLc wi g tt te (own.map (·.2))) := by
  refine ⟨fun pins s σ H Q I h => ?_⟩
  rw [eval_ListComp]
  refine lc_coreS hc hN I hi ok hg ht he hs h fun D C s' m H' I' q hn f => ⟨m, hn, fun h'' sb => ?_⟩
  obtain ⟨f0, f1, f2, f3, f4, f5⟩ := f
  exact ⟨.ref D, H', I'.turned (t' := s'.toks) (fun b o hb e => (sb.2 b hb).trans e) f0 f1 f3 f4 f5, rfl, q⟩
end
end DL

set_option maxHeartbeats 1000000
/-! A generator that hands out the items of a list of its own object, one by one. -/
namespace DL
open PySem PySem.Spec PyProof.Rows L2
open Sem (wp)
section
variable {prog : Program} {w : World} {A : Around} {R : GenEnd} {Y : Protocol} {n : Nat} {s₀ : Shared} {c : Code} {fs : List Frame} {s : Shared} {env : Env}
  {K : Flow → Sem PySem.Fin} {J : Value → Sem PySem.Fin} {gd : Bool → Bool} {lv : List Value → List Value}
/-- what a loop's call in a generator goes on with -/
abbrev loopFr (env : Env) (K : Flow → Sem PySem.Fin) (J : Value → Sem PySem.Fin) (gd : Bool → Bool) (lv : List Value → List Value) (c : Code) (p : Pos) : Frame :=
  .ret (fun r => ((match r with | .ok f => (.pure f : Sem Flow) | .error e => .raise e).onRaise (cameBack env)).wrap K J gd lv) none (gd false) (lv []) c p []
theorem seg_For {target iter : Expr} {body orelse : List Stmt} {pos : Pos} (hs : ∀ x, foldedSetIterable iter env x = pure x)
    (h : wpAny (model prog w) (A.over c fs) (eval iter env) (fun x s1 => wpAny (model prog w) (A.over c fs) (pyIter x) (fun it s2 => ∀ p, Seg (model prog w) A R Y n s₀ (.forLoop target it body orelse env) ((model prog w).den (.forLoop target it body orelse env)) (loopFr env K J gd lv c p :: fs) s2)
      (fun _ _ => False) s1) (fun _ _ => False) s) :
    Seg (model prog w) A R Y n s₀ c ((exec (.For target iter body orelse pos) env).wrap K J gd lv) fs s := by
  rw [exec_For]
  refine seg_bind_wrap (wpAny_standAt ?_)
  refine seg_bind_wrap (wpAny_mono h (fun x s1 h1 => ?_) fun _ _ z => z.elim)
  rw [hs]
  refine seg_bind_wrap (wpAny_pure ?_)
  refine seg_bind_wrap (wpAny_standAt ?_)
  refine seg_bind_wrap (wpAny_holding (wpAny_mono h1 (fun it s2 h2 => ?_) fun _ _ z => z.elim))
  exact seg_call h2
theorem seg_forLoop {target : Expr} {it : Value} {body : List Stmt} 
    (h : wpAny (model prog w) (A.over (.forLoop target it body [] env) fs) (pyNext it) (fun r s1 => match r with
      | none => Seg (model prog w) A R Y n s₀ (.block [] env) (leafOf (.ok .next)) fs s1
      | some v => wpAny (model prog w) (A.over (.forLoop target it body [] env) fs) (letOwnedTupleGo target it v) (fun _ s2 => wpAny (model prog w) (A.over (.forLoop target it body [] env) fs) (assign target env v) (fun _ s3 =>
          Seg (model prog w) A R Y n s₀ (.forLoop target it body [] env) ((execs body env).wrap (fun f => match f with
            | .next | .cont => .pure (.again (.forLoop target it body [] env))
            | .brk => .pure (.done .next)
            | .ret v => .pure (.done (.ret v))) (fun e => (do noteFrame e env; theTreesLotGoes e : Sem Unit).wrap (fun _ => .raise e) .raise id id) id id) fs s3) (fun _ _ => False) s2) (fun _ _ => False) s1) (fun _ _ => False) s) :
    Seg (model prog w) A R Y n s₀ (.forLoop target it body [] env) ((model prog w).den (.forLoop target it body [] env)) fs s := by
  show Seg _ A R Y n s₀ _ ((forTurn target it body [] env).onRaise (fun x => do noteFrame x env; theTreesLotGoes x)) fs s
  unfold forTurn
  rw [Sem.onRaise_eq_wrap]
  refine seg_bind_wrap (wpAny_standAt ?_)
  refine seg_bind_wrap (wpAny_onRaise (wpAny_mono h (fun r s1 h1 => ?_) fun _ _ z => z.elim))
  cases r with
  | none =>
    refine seg_again (c' := .block [] env) rfl ?_
    exact h1
  | some v =>
    refine seg_bind_wrap (wpAny_mono h1 (fun _ s2 h2 => ?_) fun _ _ z => z.elim)
    refine seg_bind_wrap (wpAny_mono h2 (fun _ s3 h3 => ?_) fun _ _ z => z.elim)
    rw [Sem.bind_eq_wrap', Sem.wrap_wrap]
    rw [Sem.wrap_congr (execs body env) _ _ (K' := fun f => match f with
            | .next | .cont => .pure (.again (.forLoop target it body [] env))
            | .brk => .pure (.done .next)
            | .ret v => .pure (.done (.ret v))) (H' := (fun e => (do noteFrame e env; theTreesLotGoes e : Sem Unit).wrap (fun _ => .raise e) .raise id id))
        (fun f => by cases f <;> rfl)
        (fun e => by first | exact Sem.bind_eq_wrap _ _ | (show (do noteFrame e env; theTreesLotGoes e : Sem Unit).bind (fun _ => .raise e) = _; rw [Sem.bind_eq_wrap]))]
    exact h3

/-- the generator's own things at its i-th stop -/
structure GFa (l L it : Addr) (xs : List V) (i : Nat) (s : Shared) : Prop where
  iter : s.heap.IsListIter it l i
  list : ∃ its : List Value, s.heap.IsList l its.toArray ∧ Vals xs its
  ns : ∃ m, s.heap.Ns L m
  n1 : it ≠ l
  n2 : it ≠ L
  n3 : l ≠ L
structure Chg (L it : Addr) (s₀ s : Shared) : Prop where
  os : s.os = s₀.os
  gens : s.gens = s₀.gens
  keep : ∀ b o, b ≠ L → b ≠ it → s₀.heap.get? b = some o → s.heap.get? b = some o
def GYw (l L it : Addr) (xs : List V) : Protocol := fun n s₀ v s kap =>
  ∃ i x, n + (i + 1) = xs.length ∧ xs[i]? = some x ∧ RelV x v ∧ GFa l L it xs (i + 1) s ∧ Chg L it s₀ s ∧ ∀ s', GFa l L it xs (i + 1) s' → kap (.send .none) s'
def GRw (L it : Addr) : GenEnd := fun n s₀ r s => r = .ok (.ret .none) ∧ n = 0 ∧ Chg L it s₀ s
variable {l L it : Addr} {xs : List V} {y : Str} {p1 p2 p3 p4 : Pos}
theorem walk_loop (hk : env.scope.kind = .function) (hy : env.kindOf y = some .local) (hL : env.locals = L) (hco : env.scope.isCoroutine = false) (hi0 : interactive env = false) (hyd : (y == ("__debug__" : Str)) = false)
    (hh : (A.over c fs).handled = none) (hsp : splitAtGen fs = none) (hgd : fs.any Frame.guarded = false) (hg0 : gd false = false) {p : Pos}
    (hend : ∀ s₀ s, Chg L it s₀ s → Seg (model prog w) A R (GYw l L it xs) 0 s₀ c (K .next) fs s) :
    ∀ (r i : Nat) (s₀ s : Shared), i + r = xs.length → GFa l L it xs i s → Chg L it s₀ s →
      Seg (model prog w) A R (GYw l L it xs) r s₀ (.forLoop (.Name y p1) (.ref it) [.Expr (.Yield (some (.Name y p2)) p3) p4] [] env) ((model prog w).den (.forLoop (.Name y p1) (.ref it) [.Expr (.Yield (some (.Name y p2)) p3) p4] [] env)) (loopFr env K J gd lv c p :: fs) s := by
  have hov : ∀ c', (A.over c' (loopFr env K J gd lv c p :: fs)).handled = none := fun c' => hh
  have hsp' : splitAtGen (loopFr env K J gd lv c p :: fs) = none := by
    show (splitAtGen fs).map _ = none
    rw [hsp]; rfl
  have hgd' : (loopFr env K J gd lv c p :: fs).any Frame.guarded = false := by
    show (gd false || fs.any Frame.guarded) = false
    rw [hg0, hgd]; rfl
  intro r
  induction r with
  | zero =>
    intro i s₀ s hi G C
    have hi : i = xs.length := by omega
    subst hi
    obtain ⟨its, hl, hv⟩ := G.list
    refine seg_forLoop (wpAny_pyNext_list_end (hov _) G.iter hl (by have := hv.length; simp; omega) fun h' eb => ?_)
    exact seg_leaf (.ok .next) (hend s₀ _ ⟨C.os, C.gens, fun b o h1 h2 e => eb b o h2 (C.keep b o h1 h2 e)⟩)
  | succ r ih =>
    intro i s₀ s hi G C
    obtain ⟨its, hl, hv⟩ := G.list
    obtain ⟨m, hns⟩ := G.ns
    obtain ⟨x, hx⟩ : ∃ x, xs[i]? = some x := ⟨xs[i]'(by omega), List.getElem?_eq_getElem _⟩
    obtain ⟨u, hu, ru⟩ := hv.get hx
    refine seg_forLoop (wpAny_pyNext_list_item G.iter hl (x := u) (by simpa using hu) fun h1 hit1 sb1 => ?_)
    refine wpAny_pure ?_
    have hns1 : h1.Ns env.locals m := by rw [hL]; exact hns.sameBut sb1 (Ne.symm G.n2)
    refine wpAny_assign_Name (wpAny_storeName_local hy (m := m) hns1 (fun h2 hns2 sb2 => ?_) (by rw [hk]; rfl))
    rw [hL] at sb2
    refine seg_execs_cons (seg_Expr_Yield hsp' rfl hgd' (wpAny_Name (wpAny_loadName_local hk hy hns2 (v := u) (if_pos rfl) ?_) hyd) hco hi0)
    intro kap hkap
    have keep2 : ∀ b o, b ≠ L → b ≠ it → s.heap.get? b = some o → h2.get? b = some o := fun b o e1 e2 e => (sb2.2 b e1).trans ((sb1.2 b e2).trans e)
    have hl2 : h2.IsList l its.toArray := by
      obtain ⟨o, ho, q⟩ := hl
      exact ⟨o, keep2 l o G.n3 (Ne.symm G.n1) ho, q⟩
    have hit2 : h2.IsListIter it l (i + 1) := by
      obtain ⟨o, ho, q⟩ := hit1
      exact ⟨o, (sb2.2 it G.n2).trans ho, q⟩
    refine ⟨i, x, by omega, hx, ru, ⟨hit2, ⟨its, hl2, hv⟩, ⟨_, by rw [← hL]; exact hns2⟩, G.n1, G.n2, G.n3⟩, ⟨C.os, C.gens, fun b o e1 e2 e => keep2 b o e1 e2 (C.keep b o e1 e2 e)⟩, fun s' G' => hkap .none s' ?_⟩
    refine seg_execs_nil ?_
    exact seg_again rfl (ih (i + 1) s' s' (by omega) G' ⟨rfl, rfl, fun _ _ _ _ e => e⟩)
end
section
variable {M : Model}
def GNext (M : Model) (A : Around) (R : GenEnd) (Y : Protocol) : Nat → GenState → Resume → Shared → Prop
  | 0, _, _, _ => False
  | m + 1, gs, r, s => gs.Goes M A R Y m r s
theorem resumeW {A : Around} {R : GenEnd} {Y : Protocol} {n : Nat} {E : Value → Shared → Prop} {s : Shared} {g : Nat} {gs : GenState}
    {r : Resume} {l : List Value} {α : Type} {k : GenResult → Sem α} {Q : α → Shared → Prop} (hg : s.gens[g]? = some gs)
    (hgo : gs.Goes M A R Y n r (s.setGen g .running))
    (hR : ∀ x s₁, R n (s.setGen g .running) x s₁ → wpAny M A (k (End.ret x).result) Q E (s₁.setGen g .finished))
    (hY : ∀ v s₁ gs', gs'.bare = true → isSusp gs' = true → Y (n - 1) (s.setGen g .running) v s₁ (fun r' s'' => GNext M A R Y n gs' r' s'') →
      wpAny M A (k (.yielded v)) Q E (s₁.setGen g gs')) :
    wpAny M A (.resume g r l k) Q E s := by
  intro Γ p hΓ
  rw [Sem.wp_resume]
  have hB : ∀ c, (Γ.wake c p).Woken A := fun c => hΓ.wake c p
  have fin : ∀ e₁ s₁, SegEnd R Y n (Seg.next M A R Y n) (s.setGen g .running) e₁ s₁ →
      wp M Γ (k e₁.result) (fun a _ s' => Q a s') (fun e _ s' => E e s') p (s₁.setGen g e₁.genState) := by
    intro e₁ s₁ he
    cases e₁ with
    | ret x => exact hR x s₁ he Γ p hΓ
    | susp v g₀ l₀ k₀ c₀ p₀ fs₀ =>
      refine hY v s₁ _ (End.bare_of_quiet he.1) rfl ?_ Γ p hΓ
      cases n with
      | zero => exact he.2
      | succ m => exact he.2
  have hqt : ∀ e₁ s₁, SegEnd R Y n (Seg.next M A R Y n) (s.setGen g .running) e₁ s₁ → e₁.quiet = true := by
    intro e₁ s₁ he
    cases e₁ with
    | ret x => rfl
    | susp v g₀ l₀ k₀ c₀ p₀ fs₀ => exact he.1
  cases gs with
  | fresh c =>
    obtain ⟨rfl, hs⟩ := hgo
    obtain ⟨e₁, s₁, hr, he⟩ := seg_iff.mp hs (Γ.wake c p) p rfl (hB c)
    exact ⟨_, _, by unfold Wakes; rw [hg]; exact ⟨e₁, s₁, hr, hqt e₁ s₁ he, rfl, rfl⟩, fin e₁ s₁ he⟩
  | suspended k₀ l₀ c₀ p₀ fs₀ cl =>
    obtain ⟨e₁, s₁, hr, he⟩ := seg_iff.mp hgo (Γ.wake c₀ p) p₀ rfl (hB c₀)
    exact ⟨_, _, by unfold Wakes; rw [hg]; exact ⟨e₁, s₁, hr, hqt e₁ s₁ he, rfl, rfl⟩, fin e₁ s₁ he⟩
  | running => exact hgo.elim
  | finished => exact hgo.elim
end
section
variable {prog : Program} {w : World} {A : Around} {E : Value → Shared → Prop} {s : Shared}
theorem next_genW {a : Addr} {g n : Nat} {gs : GenState} {F : Nat → Shared → Shared → Prop} {Y : Protocol} {Q : Option Value → Shared → Prop} (hh : A.handled = none)
    (hl : s.heap.NoLimit) (hroom : A.depth < recursionLimit) (hg : s.heap.IsGen a g) (hgs : s.gens[g]? = some gs)
    (hgo : gs.Goes (model prog w) A.in1 (fun n s₀ r s₁ => r = .ok (.ret .none) ∧ F n s₀ s₁) Y n (.send .none) (s.setGen g .running))
    (hY : ∀ v s₁ gs', gs'.bare = true → isSusp gs' = true → Y (n - 1) (s.setGen g .running) v s₁ (fun r' s'' => GNext (model prog w) A.in1 (fun n s₀ r s₁ => r = .ok (.ret .none) ∧ F n s₀ s₁) Y n gs' r' s'') → Q (some v) (s₁.setGen g gs'))
    (hP : ∀ s₁, F n (s.setGen g .running) s₁ → ∀ h', (∀ b o, s₁.heap.get? b = some o → h'.get? b = some o) → Q none { s₁.setGen g .finished with heap := h' }) :
    wpAny (model prog w) A (pyNext (.ref a)) Q E s := by
  unfold pyNext
  refine wpAny_bind (wpAny_attempt (wpAny_callSpecial?_slot (name := Str.ofString "__next__") hg.typeIs slot_gen_next
    (wpAny_call_entry slot_gen_next hg.typeIs entry_gen_next ?_ (args_gen_next _))))
  show wpAny _ A.in1 (Builtin.Generator.genWake (.ref a) (.send .none)) _ _ s
  unfold Builtin.Generator.genWake
  refine wpAny_bind (wpAny_holding (wpAny_genNumber hg (wpAny_bind (wpAny_genState hgs ?_))))
  cases gs with
  | running => exact hgo.elim
  | finished => exact hgo.elim
  | _ =>
    refine wpAny_bind (wpAny_roomToWake hl hroom ?_)
    show wpAny _ A.in1 (.resume g (.send .none) [] _) _ _ s
    refine resumeW hgs hgo (fun x s₁ hx => ?_) (fun v s₁ gs' hb hsu hv => ?_)
    · obtain ⟨hr, hp⟩ := hx
      have hres : End.result (.ret x) = .returned .none := by rw [hr]; rfl
      first | rw [hres] | simp only [hres]
      show wpAny _ A.in1 (newExc (.type "StopIteration") [] >>= _) _ _ _
      refine wpAny_bind ?_
      simp only [newExc, newTuple]
      refine wpAny_bind (wpAny_newObj_type ?_ (by size_fits))
      refine wpAny_bind (m := firstArgMember _ _) (wpAny_of_eq (a := Value.none) (by first | rfl | (simp only [firstArgMember]; rfl)) ?_)
      refine wpAny_newObj_type ?_ (by size_fits)
      simp only [raiseNew]
      refine wpAny_bind (wpAny_bind (wpAny_handled ?_))
      first | rw [show A.in1.handled = none from hh] | rw [hh]
      refine wpAny_throw ?_
      refine wpAny_bind (wpAny_isInstance (T := "StopIteration") (b := true) ⟨_, Heap.get?_push_size _ rfl, rfl⟩ isSubtype_stop ?_)
      exact wpAny_pure (hP s₁ hp _ fun b o hb => Heap.get?_push_of_some _ (Heap.get?_push_of_some _ hb))
    · exact wpAny_pure ⟨v, rfl, wpAny_pure (hY v s₁ gs' hb hsu hv)⟩
end
/-- what an item's taking may change -/
theorem inv_chg {X : Cx} {pins : List (Addr × Obj)} {σ : L2.St} {H : Hp} {s s' : Shared} {ch : List Addr} (I : Inv X pins σ H s) (hf : ∀ b ∈ ch, FpOk X pins H b) (k : ∀ b o, b ∉ ch → s.heap.get? b = some o → s'.heap.get? b = some o)
    (ho : s'.os = s.os) (hb : AllBare s'.gens) : Inv X pins σ H s' := by
  obtain ⟨h', g', d', t', o'⟩ := s'
  have e : o' = s.os := ho
  subst e
  have nit : ∀ b u, H b = some u → b ∉ ch := fun b u e z => by
    have q := (hf b z).1
    rw [q] at e; cases e
  refine I.step (g' := g') (t' := t') (d' := d') (ch := ch) (fun b hb => ⟨(hf b hb).2.2.2.1, (hf b hb).2.1, (hf b hb).2.2.2.2.1, (hf b hb).2.2.2.2.2⟩) (fun b o _ _ hc e _ => k b o hc e) (fun b o _ _ hc e _ => ⟨o.slots, k b o hc e⟩)
    (fun _ _ _ _ n => n) (fun b o hc e => ⟨o, k b o hc e⟩) (fun _ _ e => e) (fun _ _ _ e => e) (fun b ps e => ⟨#[], by rw [e]; simp⟩) (fun m hm => ?_) (fun b u e => ?_) hb
  · obtain ⟨o, es, ep, ho, r⟩ := hm
    exact ⟨o, es, ep, k _ o (fun z => (hf _ z).2.1 rfl) ho, r⟩
  · refine (I.hok b u e).stay (fun c v hc q => k c v ?_ q) (fun _ q => q) fun _ _ q => q
    rcases hc with z | z
    · rw [z]; exact nit b u e
    · exact nit c _ z

/-- the generator's body: for y in sf.f: yield y -/
abbrev wBody (y sf f : Str) (p1 p2 p3 p4 p5 ps pa : Pos) : List Stmt := [.For (.Name y p1) (.Attribute (.Name sf ps) f pa) [.Expr (.Yield (some (.Name y p2)) p3) p4] [] p5]
structure WEnv (env : Env) (L : Addr) (y sf : Str) : Prop where
  kind : env.scope.kind = .function
  ky : env.kindOf y = some .local
  ks : env.kindOf sf = some .local
  loc : env.locals = L
  co : env.scope.isCoroutine = false
  top : interactive env = false
  yd : (y == ("__debug__" : Str)) = false
  sd : (sf == ("__debug__" : Str)) = false
def WSt (P : Program) (w : World) (A0 : Around) (ob a L l : Addr) (g : Nat) (sf : Str) (body : List Stmt) (env : Env) (xs : List V) : Nat → List Addr → Shared → Prop
  | 0, fp, s => fp = [a, L] ∧ s.heap.IsGen a g ∧ (∃ m, s.heap.Ns L m ∧ m sf = some (.ref ob)) ∧ s.gens[g]? = some (.fresh (.func body env))
  | i + 1, fp, s => ∃ it gs, fp = [a, L, it] ∧ s.heap.IsGen a g ∧ s.heap.IsListIter it l (i + 1) ∧ (∃ m, s.heap.Ns L m) ∧ it ≠ L ∧ it ≠ a ∧ s.gens[g]? = some gs ∧ gs.bare = true ∧ isSusp gs = true ∧
      ∀ s', GFa l L it xs (i + 1) s' → gs.Goes (model P w) A0.in1 (GRw L it) (GYw l L it xs) (xs.length - (i + 1)) (.send .none) s'
/-- the walked thing: what the object's list holds -/
def ItW (K : PySem.W.Frag) (C ob l : Addr) (f : Str) (xs : List V) : It :=
  ⟨fun i H => ((∃ dx vs, H ob = some (.ins C dx vs) ∧ vs.lookup f = some (.ref l)) ∧ SqL K H l xs) ∧ i < xs.length, fun i H v H' => xs[i]? = some v ∧ H' = H, fun i H => ((∃ dx vs, H ob = some (.ins C dx vs) ∧ vs.lookup f = some (.ref l)) ∧ SqL K H l xs) ∧ xs.length ≤ i⟩
theorem ne_ld {h : Heap} {l L : Addr} {its : Array Value} {m : Str → Option Value} (a : h.IsList l its) (b : h.Ns L m) : l ≠ L := fun e => by
  subst e
  obtain ⟨o, ho, _, _, hd⟩ := a
  obtain ⟨o', es, ep, ho', hd', _⟩ := b
  rw [ho] at ho'; cases ho'
  rw [hd] at hd'; cases hd'
theorem ne_il {h : Heap} {l it m : Addr} {its : Array Value} {i : Nat} (a : h.IsList l its) (b : h.IsListIter it m i) : it ≠ l := fun e => by
  subst e
  obtain ⟨o, ho, _, _, hd⟩ := a
  obtain ⟨o', ho', _, hd'⟩ := b
  rw [ho] at ho'; cases ho'
  rw [hd] at hd'; cases hd'
section
variable {P : Program} {w : World} {K : PySem.W.Frag} {A0 : Around} {C ob a L l : Addr} {g : Nat} {y sf f : Str} {p1 p2 p3 p4 p5 ps pa : Pos} {env : Env} {xs : List V}
/-- the first waking -/
theorem walk_first {X : Cx} {pins : List (Addr × Obj)} {s : Shared} {σ : L2.St} {H : Hp} (hP : X.prog = P) (hw : X.w = w) (hK : X.K = K) (I : Inv X pins σ H s) (hcl : Cls K C) (hno : NoAttr K C f) (W : WEnv env L y sf)
    (hb : attributeBase (.Name sf ps) f env (eval (.Name sf ps) env) = eval (.Name sf ps) env) (hs : ∀ x, foldedSetIterable (.Attribute (.Name sf ps) f pa) env x = pure x)
    (hns : ∃ m, s.heap.Ns L m ∧ m sf = some (.ref ob)) (hob : ∃ dx vs, H ob = some (.ins C dx vs) ∧ vs.lookup f = some (.ref l)) (hl : SqL K H l xs) (hh : A0.handled = none) :
    Seg (model P w) A0.in1 (GRw L s.heap.objs.size) (GYw l L s.heap.objs.size xs) xs.length (s.setGen g .running) (.func (wBody y sf f p1 p2 p3 p4 p5 ps pa) env) ((model P w).den (.func (wBody y sf f p1 p2 p3 p4 p5 ps pa) env)) [] (s.setGen g .running) := by
  subst hP hw hK
  obtain ⟨m, hm, hsf⟩ := hns
  obtain ⟨dx, vs, hob1, hob2⟩ := hob
  obtain ⟨its, rv, il0, _⟩ := I.list hl
  have il := il0.isList
  have hLl := ne_ld il hm
  have hLt := hm.lt
  refine seg_func (seg_execs_cons (seg_For hs ?_))
  have hm' : (s.setGen g .running).heap.Ns env.locals m := by rw [W.loc]; exact hm
  refine attr_of hb (wpAny_Name (wpAny_loadName_local W.kind W.ks hm' hsf ?_) W.sd)
  obtain ⟨mA, O, r, _, _, _⟩ := ins_get I.hok hob1
  obtain ⟨u, hu, ru⟩ := RelO.some_of (v := .ref l) (o := mA f) (by rw [← hob2]; exact r f)
  obtain rfl : u = Value.ref l := ru
  refine get_map (s := s.setGen g .running) I.kIn O (hcl.get f) hcl.hd hno hu (handed_of (v := V.ref l) rfl) ?_
  refine wpAny_pyIter_list (s := { s.setGen g .running with toks := _ }) il fun p => ?_
  refine walk_loop W.kind W.ky W.loc W.co W.top W.yd ?_ rfl rfl rfl (fun s₀ s C => ?_) xs.length 0 _ _ (Nat.zero_add _) ⟨?_, ⟨its, il.push _, rv⟩, ⟨m, hm.push _⟩, ?_, ?_, hLl⟩ ⟨rfl, rfl, fun b o _ _ e => Heap.get?_push_of_some _ e⟩
  · rw [GenW.over_func]; exact hh
  · exact seg_end (.ok (.ret .none)) ⟨rfl, rfl, C⟩
  · exact ⟨_, Heap.get?_push_size _ rfl, rfl, rfl⟩
  · exact Nat.ne_of_gt il0.lt
  · exact Nat.ne_of_gt hLt

theorem turn_walk (hcl : Cls K C) (hno : NoAttr K C f) (W : WEnv env L y sf) {tg : Expr}
    (hb : attributeBase (.Name sf ps) f env (eval (.Name sf ps) env) = eval (.Name sf ps) env) (hs : ∀ x, foldedSetIterable (.Attribute (.Name sf ps) f pa) env x = pure x)
    (hd : A0.depth < recursionLimit) (hh : A0.handled = none) (hLa : L ≠ a) :
    TurnS P w K A0 tg (ItW K C ob l f xs) a (WSt P w A0 ob a L l g sf (wBody y sf f p1 p2 p3 p4 p5 ps pa) env xs) where
  obj := fun i fp s st b hb => by
    have gen : s.heap.IsGen a g → b = a → ∃ o, s.heap.get? b = some o ∧ ∀ v, o.data ≠ .cell v := fun h e => by
      subst e
      obtain ⟨o, nm, qn, ho, _, hd, _⟩ := h
      exact ⟨o, ho, fun v q => by rw [hd] at q; cases q⟩
    have ns : (∃ m, s.heap.Ns L m) → b = L → ∃ o, s.heap.get? b = some o ∧ ∀ v, o.data ≠ .cell v := fun ⟨m, o, es, ep, ho, hd, _⟩ e => by
      subst e
      exact ⟨o, ho, fun v q => by rw [hd] at q; cases q⟩
    cases i with
    | zero =>
      obtain ⟨rfl, h1, ⟨m, h2, _⟩, _⟩ := st
      rcases List.mem_cons.mp hb with e | e
      · exact gen h1 e
      · exact ns ⟨m, h2⟩ (by simpa using e)
    | succ i =>
      obtain ⟨it, gs, rfl, h1, h2, h3, _⟩ := st
      rcases List.mem_cons.mp hb with e | e
      · exact gen h1 e
      · rcases List.mem_cons.mp e with e | e
        · exact ns h3 e
        · have e : b = it := by simpa using e
          subst e
          obtain ⟨o, ho, _, hd⟩ := h2
          exact ⟨o, ho, fun v q => by rw [hd] at q; cases q⟩
  keep0 := fun fp s s' st k hg => by
    obtain ⟨rfl, ⟨o, nm, qn, ho, h1⟩, ⟨m, ⟨o2, es, ep, ho2, h2⟩, h3⟩, h4⟩ := st
    exact ⟨rfl, ⟨o, nm, qn, k a (by simp) _ ho, h1⟩, ⟨m, ⟨o2, es, ep, k L (by simp) _ ho2, h2⟩, h3⟩, by rw [hg]; exact h4⟩
  keep := fun i fp s s' st k sl => by
    obtain ⟨it, gs, rfl, ⟨o, nm, qn, ho, h1⟩, ⟨o3, ho3, h5⟩, ⟨m, o2, es, ep, ho2, h2⟩, n1, n2, hg, hb, hsu, go⟩ := st
    exact ⟨it, gs, rfl, ⟨o, nm, qn, k a (by simp) _ ho, h1⟩, ⟨o3, k it (by simp) _ ho3, h5⟩, ⟨m, o2, es, ep, k L (by simp) _ ho2, h2⟩, n1, n2, sl g gs hg hsu, hb, hsu, go⟩
  item := by
    intro X hP hw hK hc hA i fp pins s σ H E I hf st hg
    obtain ⟨⟨hob, hl⟩, hlt⟩ := hg
    obtain ⟨x, hx⟩ : ∃ x, xs[i]? = some x := ⟨xs[i], List.getElem?_eq_getElem _⟩
    -- what follows a yield
    have fin : ∀ (it : Addr) (v : Value) (s₁ : Shared) (gs' : GenState), gs'.bare = true → isSusp gs' = true → (∀ b ∈ [a, L, it], FpOk X pins H b) → s.heap.IsGen a g → it ≠ a → g < s.gens.size →
        GYw l L it xs (xs.length - i - 1) (s.setGen g .running) v s₁ (fun r' s'' => GNext (model P w) A0.in1 (GRw L it) (GYw l L it xs) (xs.length - i) gs' r' s'') →
        ∃ u, some v = some u ∧ wpAny (model P w) X.A (letOwnedTupleGo tg (.ref a) u) (fun _ s2 => ∃ x H' fp', Inv X pins σ H' s2 ∧ RelV x u ∧ (ItW K C ob l f xs).yld i H x H' ∧ WSt P w A0 ob a L l g sf (wBody y sf f p1 p2 p3 p4 p5 ps pa) env xs (i + 1) fp' s2 ∧ ∀ b ∈ fp', FpOk X pins H' b) E (s₁.setGen g gs') := by
      intro it v s₁ gs' hb hsu hfp hgen hia hgl hy
      obtain ⟨j, x', hj, hx', rx, G, Ch, hk⟩ := hy
      have hji : j = i := by omega
      subst hji
      rw [hx] at hx'; cases hx'
      have hbare : AllBare (s₁.setGen g gs').gens := allBare_setGen (by rw [Ch.gens]; exact allBare_setGen I.bare rfl) hb
      obtain ⟨o, nm, qn, ho, ho1, ho2, ho3⟩ := hgen
      have ho' := Ch.keep a o (Ne.symm hLa) (Ne.symm hia) ho
      refine ⟨v, rfl, go_of (o := o) (n := "generator") ho' ho1 ho2 (by decide) ?_⟩
      have I2 : Inv X pins σ H (s₁.setGen g gs') := inv_chg (ch := [a, L, it]) I hfp (fun b o hb e => Ch.keep b o (fun z => hb (by simp [z])) (fun z => hb (by simp [z])) e) Ch.os hbare
      refine ⟨x, H, [a, L, it], I2, rx, ⟨hx, rfl⟩, ⟨it, gs', rfl, ⟨o, nm, qn, ho', ho1, ho2, ho3⟩, G.iter, G.ns, G.n2, hia, setGen_at (by rw [Ch.gens, GenW.setGen_size]; exact hgl), hb, hsu, fun s' G' => ?_⟩, hfp⟩
      have := hk s' G'
      have e : xs.length - j = (xs.length - (j + 1)) + 1 := by omega
      rw [e] at this
      exact this
    have hI : s.heap.NoLimit := I.nolimit
    have hAh : X.A.handled = none := by rw [hA]; exact hh
    cases i with
    | zero =>
      obtain ⟨rfl, hgen, hns, hgs⟩ := st
      have hgl : g < s.gens.size := (Array.getElem?_eq_some_iff.mp hgs).1
      have hLs : s.heap.objs.size ≠ a := by
        obtain ⟨o, _, _, ho, _⟩ := hgen
        exact Nat.ne_of_gt (Heap.lt_size ho)
      have first := walk_first (P := P) (w := w) (K := K) (A0 := A0) (g := g) (p1 := p1) (p2 := p2) (p3 := p3) (p4 := p4) (p5 := p5) hP hw hK I hcl hno W hb hs hns hob hl hh
      have : model P w = model X.prog X.w := by rw [hP, hw]
      rw [show X.A = A0 from hA]
      refine next_genW (n := xs.length) (F := fun n s₀ s₁ => n = 0 ∧ Chg L s.heap.objs.size s₀ s₁) (Y := GYw l L s.heap.objs.size xs) hh hI hd hgen hgs ⟨rfl, first⟩ (fun v s₁ gs' hb hsu hy => ?_) (fun s₁ hp => ?_)
      · have := fin s.heap.objs.size v s₁ gs' hb hsu (fun b hb => ?_) hgen hLs hgl hy
        · rw [show X.A = A0 from hA] at this; exact this
        · rcases List.mem_cons.mp hb with e | e
          · rw [e]; exact hf a (by simp)
          · rcases List.mem_cons.mp e with e | e
            · rw [e]; exact hf L (by simp)
            · have e : b = s.heap.objs.size := by simpa using e
              rw [e]
              exact I.fpOk (Nat.le_refl _) (I.hok.fresh (Nat.le_refl _))
      · exact absurd hp.1 (by omega)
    | succ i =>
      obtain ⟨it, gs, rfl, hgen, hit, hns, n1, n2, hgs, hb, hsu, go⟩ := st
      have hgl : g < s.gens.size := (Array.getElem?_eq_some_iff.mp hgs).1
      obtain ⟨its, rv, il0, _⟩ := I.list (hK ▸ hl)
      have il := il0.isList
      obtain ⟨m, hm⟩ := hns
      have G : GFa l L it xs (i + 1) (s.setGen g .running) := ⟨hit, ⟨its, il, rv⟩, ⟨m, hm⟩, ne_il il hit, n1, ne_ld il hm⟩
      rw [show X.A = A0 from hA]
      refine next_genW (n := xs.length - (i + 1)) (F := fun n s₀ s₁ => n = 0 ∧ Chg L it s₀ s₁) (Y := GYw l L it xs) hh hI hd hgen hgs (go _ G) (fun v s₁ gs' hb hsu hy => ?_) (fun s₁ hp => ?_)
      · have := fin it v s₁ gs' hb hsu hf hgen n2 hgl hy
        rw [show X.A = A0 from hA] at this; exact this
      · exact absurd hp.1 (by omega)
  done := by
    intro X hP hw hK hc hA i fp pins s σ H E I hf st hg
    obtain ⟨⟨hob, hl⟩, hlt⟩ := hg
    have hI : s.heap.NoLimit := I.nolimit
    have fin : ∀ (it : Addr) (s₁ : Shared) (h' : Heap), (∀ b ∈ [a, L, it], FpOk X pins H b) → Chg L it (s.setGen g .running) s₁ → (∀ b o, s₁.heap.get? b = some o → h'.get? b = some o) → (none : Option Value) = none ∧ Inv X pins σ H { s₁.setGen g .finished with heap := h' } := fun it s₁ h' hfp Ch k => by
      refine ⟨rfl, inv_chg (ch := [a, L, it]) I hfp (fun b o hb e => k b o (Ch.keep b o (fun z => hb (by simp [z])) (fun z => hb (by simp [z])) e)) Ch.os ?_⟩
      exact allBare_setGen (by rw [Ch.gens]; exact allBare_setGen I.bare rfl) rfl
    cases i with
    | zero =>
      obtain ⟨rfl, hgen, hns, hgs⟩ := st
      have first := walk_first (P := P) (w := w) (K := K) (A0 := A0) (g := g) (p1 := p1) (p2 := p2) (p3 := p3) (p4 := p4) (p5 := p5) hP hw hK I hcl hno W hb hs hns hob hl hh
      rw [show X.A = A0 from hA]
      refine next_genW (n := xs.length) (F := fun n s₀ s₁ => n = 0 ∧ Chg L s.heap.objs.size s₀ s₁) (Y := GYw l L s.heap.objs.size xs) hh hI hd hgen hgs ⟨rfl, first⟩ (fun v s₁ gs' hb hsu hy => ?_) (fun s₁ hp h' k => ?_)
      · obtain ⟨j, x', hj, hx', _⟩ := hy
        have := (List.getElem?_eq_some_iff.mp hx').1
        omega
      · refine fin s.heap.objs.size s₁ h' (fun b hb => ?_) hp.2 k
        rcases List.mem_cons.mp hb with e | e
        · rw [e]; exact hf a (by simp)
        · rcases List.mem_cons.mp e with e | e
          · rw [e]; exact hf L (by simp)
          · have e : b = s.heap.objs.size := by simpa using e
            rw [e]
            exact I.fpOk (Nat.le_refl _) (I.hok.fresh (Nat.le_refl _))
    | succ i =>
      obtain ⟨it, gs, rfl, hgen, hit, hns, n1, n2, hgs, hb, hsu, go⟩ := st
      obtain ⟨its, rv, il0, _⟩ := I.list (hK ▸ hl)
      have il := il0.isList
      obtain ⟨m, hm⟩ := hns
      have G : GFa l L it xs (i + 1) (s.setGen g .running) := ⟨hit, ⟨its, il, rv⟩, ⟨m, hm⟩, ne_il il hit, n1, ne_ld il hm⟩
      rw [show X.A = A0 from hA]
      refine next_genW (n := xs.length - (i + 1)) (F := fun n s₀ s₁ => n = 0 ∧ Chg L it s₀ s₁) (Y := GYw l L it xs) hh hI hd hgen hgs (go _ G) (fun v s₁ gs' hb hsu hy => ?_) (fun s₁ hp h' k => ?_)
      · have e0 : xs.length - (i + 1) = 0 := by omega
        obtain ⟨j, x', hj, hx', _, G', _, hk⟩ := hy
        rw [e0] at hk
        exact (hk _ G').elim
      · exact fin it s₁ h' hf hp.2 k
  self := fun A fp s Q E st h => wpAny_pyIter_gen st.2.1 h
end
end DL

set_option maxHeartbeats 1000000
/-! [e for x in o.walk()], walk a generator over a list of its object. -/
namespace DL
open PySem PySem.Spec PyProof.Rows L2
open Sem (wp)
section
variable {X : Cx} {tg o : Expr} {m x qual : Str} {C fa : Addr} {fd : FuncData} {params : Arguments} {scope : Scope} {ta : TE} {y sf f : Str} {p1 p2 p3 p4 p5 ps pa apos pos' : Pos}
def iWalk (K : PySem.W.Frag) (C : Addr) (m f : Str) (ta : TE) : TI := fun σ H R => ta σ H fun x H1 => ∃ ob dx vs l xs, x = .ref ob ∧ H1 ob = some (.ins C dx vs) ∧ vs.lookup m = none ∧ vs.lookup f = some (.ref l) ∧ SqL K H1 l xs ∧ R (ItW K C ob l f xs) H1
/-- what is asked of such a generator's def -/
structure WalkD (K : PySem.W.Frag) (C : Addr) (m f : Str) : Prop where
  ex : ∃ (fa : Addr) (fd : FuncData) (x qual : Str) (params : Arguments) (scope : Scope) (y sf : Str) (p1 p2 p3 p4 p5 ps pa : Pos), Meth K C m fa ∧ FunD K x qual params (wBody y sf f p1 p2 p3 p4 p5 ps pa) scope [] [] fa fd ∧ GScope [sf, y] [sf] scope ∧ Binds K fd [sf] [] ∧
    (∀ L cd, WEnv (envOfC qual scope L fa cd) L y sf) ∧ (∀ L cd, attributeBase (.Name sf ps) f (envOfC qual scope L fa cd) (eval (.Name sf ps) (envOfC qual scope L fa cd)) = eval (.Name sf ps) (envOfC qual scope L fa cd)) ∧
    (∀ L cd x, foldedSetIterable (.Attribute (.Name sf ps) f pa) (envOfC qual scope L fa cd) x = pure x)
  no : NoAttr K C f
theorem pis_walk {pl : Sem Bool} (he : PE X o ta) (c : Cls X.K C) (D : WalkD X.K C m f) (hr : Room 3 X.A)
    (ht : eval (.Call (.Attribute o m apos) [] [] pos') X.env = (do
      let ov ← eval o X.env
      standAt apos.atName
      let (f, first) ← holding [ov] (getMethod ov m pl)
      callWith pos' f first (backTo pos' (starEach [] X.env)) (backToKw pos' (keywordEach [] X.env))) := by rfl) :
    PIS X tg (.Call (.Attribute o m apos) [] [] pos') (iWalk X.K C m f ta) := by
  obtain ⟨⟨fa, fd, x, qual, params, scope, y, sf, p1, p2, p3, p4, p5, ps, pa, hm, FD, S, hb, hW, hab, hfs⟩, hno⟩ := D
  refine ⟨fun pins s σ H R I h => ?_⟩
  refine PySem.W.methodCall_KW (pl := pl) (thn (he.run pins s σ H _ I h) fun u s1 ⟨xv, H1, I1, rx, ob, dx, vs, l, xs, ex, ea, lm, lf, hl, q⟩ => ?_) ht
  subst ex
  obtain rfl : u = Value.ref ob := rx
  refine getmeth_ok I1 ea c hm lm ?_
  refine PySem.W.callWith_K0 (first := [.ref ob]) I1.kIn hm.kp ?_
  obtain ⟨oc, od, dV, kV, doc, pm, an, cdv, ct, osl, rfl, lk, hcd, _, _⟩ := FD.ex
  have KX : X.K.In s1.heap := I1.kIn
  have hbs := hb s1 [.ref ob] KX rfl
  have hkind : ∀ z ∈ [sf].zip ([.ref ob] ++ ([] : List Value)), scope.names.lookup z.1 = some .local ∨ (scope.names.lookup z.1 = some .cell ∧ ((cellsFrom (s1.heap.objs.size + 1) scope.names []).lookup z.1).isSome = true) := fun ⟨n, v⟩ hy => by
    rcases S.par n (List.of_mem_zip hy).1 with q | q
    · exact .inl q
    · exact .inr ⟨q, PySem.W.cellsFrom_some _ _ _ (.inl q)⟩
  refine wpAny_call (codeAny_call_generator (Room.depth hr) (KX _ _ lk) rfl S.co S.gen rfl (PySem.W.codeRec_of KX hcd) (hbs _ _ _ _ ?_))
  refine wpAny_newFunctionEnv_cells S.kind hkind fun env he2 s2 xx => ?_
  subst he2
  have lim2 : s2.heap.NoLimit := I1.nolimit.keeps xx.toInCall.keep
  refine ⟨lim2, ?_⟩
  obtain ⟨h2, tk, es2, hk2⟩ := xx.done
  have lt2 : s1.heap.objs.size < s2.heap.objs.size := xx.toInCall.ns.lt
  have hsf : (envOfC qual scope s1.heap.objs.size fa cdv).kindOf sf = some .local := (hW s1.heap.objs.size cdv).ks
  have hmL : bindL (envOfC qual scope s1.heap.objs.size fa cdv).kindOf ([sf].zip ([.ref ob] ++ ([] : List Value))) (fun _ => none) sf = some (.ref ob) := by
    refine bindL_get (P := [sf]) (vs := [.ref ob]) (i := 0) (List.nodup_cons.mpr ⟨List.not_mem_nil, List.nodup_nil⟩) rfl rfl ?_
    exact hsf
  have main : ∀ (go : Obj) (nm qn : Value) (tk2 : Nat), go.cls = .type "generator" → go.data = .fields #[.int s2.gens.size 0, nm, qn] → go.slots = #[] → (∀ h : Heap, (h.push go).get? h.objs.size = some go) →
      wpAny (model X.prog X.w) X.A (pyIter (.ref s2.heap.objs.size)) (PISE X pins σ tg R) X.xe
        { s2 with gens := s2.gens.push (.fresh (.func (wBody y sf f p1 p2 p3 p4 p5 ps pa) (envOfC qual scope s1.heap.objs.size fa cdv))), toks := tk2, heap := s2.heap.push go } := by
    intro go nm qn tk2 hgc hgd0 hgs hgp
    have hpushed : (s2.heap.push go).get? s2.heap.objs.size = some go := hgp _
    have hgen : (s2.heap.push go).IsGen s2.heap.objs.size s2.gens.size := ⟨go, nm, qn, hpushed, hgc, hgd0, hgs⟩
    refine wpAny_pyIter_gen (s := { s2 with gens := _, toks := tk2, heap := s2.heap.push go }) hgen ?_
    have I2 : Inv X pins σ H1 { s1 with heap := s2.heap.push go, toks := tk2 } := I1.kept (t' := tk2) fun b o e => Heap.get?_push_of_some _ (by rw [es2]; exact hk2 b o e)
    have I3 : Inv X pins σ H1 { s2 with gens := s2.gens.push (.fresh (.func (wBody y sf f p1 p2 p3 p4 p5 ps pa) (envOfC qual scope s1.heap.objs.size fa cdv))), toks := tk2, heap := s2.heap.push go } := by
      have e : s2 = { s1 with heap := h2, toks := tk } := es2
      subst e
      exact inv_gens I2 (AllBare.push I1.bare rfl)
    refine ⟨s2.heap.objs.size, [s2.heap.objs.size, s1.heap.objs.size], _, ItW X.K C ob l f xs, H1, rfl, I3, turn_walk (P := X.prog) (w := X.w) (g := s2.gens.size) (L := s1.heap.objs.size) c hno (hW s1.heap.objs.size cdv) (hab _ _) (hfs _ _) (Room.depth hr) hr.hd (Nat.ne_of_lt lt2), ⟨rfl, hgen, ⟨_, xx.toInCall.ns.push go, hmL⟩, Array.getElem?_push_size ..⟩, fun b hb => ?_, q⟩
    rcases List.mem_cons.mp hb with e | e
    · rw [e]; exact I1.fpOk (Nat.le_of_lt lt2) (I1.hok.fresh (Nat.le_of_lt lt2))
    · have e : b = s1.heap.objs.size := by simpa using e
      rw [e]; exact I1.fpOk (Nat.le_refl _) (I1.hok.fresh (Nat.le_refl _))
  exact main _ _ _ _ rfl rfl rfl fun h => Heap.get?_push_size _ rfl
end
variable [LamTab]
def WIS (X : Cx) (tg iter : Expr) : TI := fun σ H R => ∀ (pins : List (Addr × Obj)) (s : Shared), Inv X pins σ H s →
  wpAny (model X.prog X.w) X.A (eval iter X.env) (fun v s1 => wpAny (model X.prog X.w) X.A (pyIter v) (PISE X pins σ tg R) X.xe s1) X.xe s
theorem mxIS (X : Cx) (tg iter : Expr) : PIS X tg iter (WIS X tg iter) := ⟨fun pins s σ H R I h => h pins s I⟩
def PDIS (X : Cx) (tg iter : Expr) (t : DA) : Prop := ∀ S r m σ R, Sta X.K S m → RelE X.K S r σ → PostI X.K S (t r m) R (fun c d H => Fly X c d σ H) → WIS X tg iter σ S.H R
theorem pdis_of {X : Cx} {tg iter : Expr} {u : TI} {t : DA} (h : PIS X tg iter u) (k : ∀ S r m σ R, Sta X.K S m → RelE X.K S r σ → PostI X.K S (t r m) R (fun c d H => Fly X c d σ H) → u σ S.H R) : PDIS X tg iter t :=
  fun S r m σ R sa re p pins s I => h.run pins s σ S.H R I (k S r m σ R sa re p)
/-- over o.walk(): the list at the i-th place of the object -/
def dItW (c : Kl) (i : Nat) (t : DE) : DA := fun e m => (t e m).bind fun d m1 => match d with
  | .obj c' ds => if c' = c then match ds[i]? with
    | some (.lst es) => .ok es m1
    | _ => .stuck
    else .stuck
  | _ => .stuck
@[simp ↓] theorem dItW_ap (c : Kl) (i : Nat) (t : DE) (e : En) (m : Mu) : dItW c i t e m = (t e m).bind fun d m1 => match d with
  | .obj c' ds => if c' = c then match ds[i]? with
    | some (.lst es) => .ok es m1
    | _ => .stuck
    else .stuck
  | _ => .stuck := rfl
section
variable {X : Cx} {tg o : Expr} {mn f : Str} {c : Kl} {i : Nat} {to : DE} {apos pos : Pos}
theorem pdis_walk {pl : Sem Bool} (he : PDE X o to) (hf : FldOk X.K f c i) (D : WalkD X.K c.a mn f) (hmn : mn ∉ c.ns) (hr : Room 3 X.A)
    (ht : eval (.Call (.Attribute o mn apos) [] [] pos) X.env = (do
      let ov ← eval o X.env
      standAt apos.atName
      let (f, first) ← holding [ov] (getMethod ov mn pl)
      callWith pos f first (backTo pos (starEach [] X.env)) (backToKw pos (keywordEach [] X.env))) := by rfl) :
    PDIS X tg (.Call (.Attribute o mn apos) [] [] pos) (dItW c i to) := by
  refine pdis_of (pis_walk (pl := pl) (mxE X o) hf.cl D hr ht) fun S r m σ R sa re p => ?_
  refine he S r m σ _ sa re (PostI.bindI p fun d m1 v T st sa1 rd q => ?_)
  split at q
  · rename_i c' ds
    split at q
    · rename_i e
      subst e
      split at q
      · rename_i es hes
        cases rd with
        | obj h1 h2 h3 =>
          obtain ⟨lv, hlv, rl⟩ := h3.get hes
          obtain ⟨l, xs, rfl, hr', k⟩ := frozen sa1 rl
          refine ⟨_, _, _, l, xs, rfl, sa1.sub _ _ h1, ?_, lookup_at (by rw [h2]; exact hf.at_) (by rw [h2]; exact hf.fst) hlv, (k T m1 (Stp.refl T) sa1).1, q _ T (Stp.refl T) sa1 fun U m' j st' sa' => ⟨fun d hd => ?_, fun hl => ?_⟩⟩
          · cases z : List.lookup mn _ with
            | none => rfl
            | some v =>
              exfalso
              have := PySem.mem_of_lookup z
              exact hmn (by rw [← h2]; exact List.mem_map.mpr ⟨_, this, rfl⟩)
          · obtain ⟨v, hv, rv⟩ := (k U m' st' sa').2.get hd
            refine ⟨⟨⟨⟨_, _, sa'.sub _ _ (st'.ext _ _ h1), lookup_at (by rw [h2]; exact hf.at_) (by rw [h2]; exact hf.fst) hlv⟩, (k U m' st' sa').1⟩, (List.getElem?_eq_some_iff.mp hv).1⟩, fun x H' hy => ⟨U, hy.2.symm, Stp.refl U, sa', ?_⟩⟩
            have hy1 : xs[j]? = some x := hy.1
            rw [hv] at hy1; cases hy1
            exact rv
          · exact ⟨⟨⟨_, _, sa'.sub _ _ (st'.ext _ _ h1), lookup_at (by rw [h2]; exact hf.at_) (by rw [h2]; exact hf.fst) hlv⟩, (k U m' st' sa').1⟩, by rw [← hr'.len]; exact hl⟩
      · exact q.elim
    · exact q.elim
  · exact q.elim
end
section
variable {X : Cx}
variable {elt tg iter : Expr} {ifs : List Expr} {scope : Scope} {own : List (Str × Nat)} {pos spos : Pos} {t : DA} {g : DG} {c : DT} {b : DE} {sl : List Nat}
theorem lc_goW {σ : L2.St} {S : Wd} {r : En} {m : Mu} {Q : VK} (hi : PDIS X tg iter t)
    (hg : ∀ s H C cl fp, PDG (Bk X scope s H C cl fp) tg g sl) (ht : ∀ s H C cl fp, PDTs (Bk X scope s H C cl fp) ifs c) (he : ∀ s H C cl fp, PDE (Bk X scope s H C cl fp) elt b)
    (hsl : ∀ i ∈ sl, i ∈ own.map (·.2))
    (sa : Sta X.K S m) (re : RelE X.K S r σ) (p : PostD X.K S (dComp t g c b (own.map (·.2)) r m) Q (fun c d H => Fly X c d σ H)) :
    tLc (WIS X tg iter) (bG X scope tg) (bT X scope ifs) (bE X scope elt) (own.map (·.2)) σ S.H Q := by
  refine hi S r m σ _ sa re ?_
  unfold dComp at p
  cases q : t r m with
  | stuck => rw [q] at p; exact p
  | exc C fs m1 => rw [q] at p; exact p
  | ok ds m1 =>
    rw [q] at p
    intro J T st sa1 hJ Dd hD
    have pT : PostD X.K T ((dCompL g c b (wipeE r (own.map (·.2))) ds m1 []).bind fun xs m2 => Res.ok (D.lst xs) m2) Q (fun c d H => Fly X c d σ H) := Post.step st p
    have reW : RelE X.K T (wipeE r (own.map (·.2))) (wipe σ (own.map (·.2))) := (re.stp st).wipe _
    have f0 := sa1.fresh hD
    refine ⟨fun i n H' => n = ds.length - i ∧ i ≤ ds.length ∧ ∃ (U : Wd) (m' : Mu) (acc : List D) (av : List V), U.H = H' ∧ Stp T U ∧ Sta X.K U m' ∧ U.H Dd = some (.lst av) ∧ U.F Dd = none ∧ Dd ∉ U.i ∧ Reps X.K U.i U.F acc av ∧
        PostD X.K T ((dCompL g c b (wipeE r (own.map (·.2))) (ds.drop i) m' acc).bind fun xs m2 => Res.ok (D.lst xs) m2) Q (fun c d H => Fly X c d σ H),
      ⟨ds.length, by simp, Nat.zero_le _, T.put Dd (.lst []), m1, [], [], rfl, (Stp.refl T).hid hD, sa1.hid f0.1 f0.2 (by rw [hD]; exact nofun), upd_same, f0.1, f0.2, .nil, pT⟩, ?_⟩
    rintro i n H' ⟨rfl, hi', U, m', acc, av, rfl, stU, saU, hU1, hU2, hU3, rA, pU⟩
    by_cases hlt : i < ds.length
    · refine .inr ⟨((hJ U m' i stU saU).1 _ (List.getElem?_eq_getElem hlt)).1, fun H2 => i + 1 ≤ ds.length ∧ ∃ (U : Wd) (m' : Mu) (acc : List D) (av : List V), U.H = H2 ∧ Stp T U ∧ Sta X.K U m' ∧ U.H Dd = some (.lst av) ∧ U.F Dd = none ∧ Dd ∉ U.i ∧ Reps X.K U.i U.F acc av ∧
        PostD X.K T ((dCompL g c b (wipeE r (own.map (·.2))) (ds.drop (i + 1)) m' acc).bind fun xs m2 => Res.ok (D.lst xs) m2) Q (fun c d H => Fly X c d σ H),
        fun H2 h2 => ⟨ds.length - (i + 1), by omega, rfl, h2.1, h2.2⟩, fun x H2 hy => ?_⟩
      obtain ⟨Y, rfl, stY, saY, rdY⟩ := ((hJ U m' i stU saU).1 _ (List.getElem?_eq_getElem hlt)).2 x H2 hy
      obtain ⟨y1, y2, y3⟩ := stY.frame Dd _ (by exact nofun) hU1 hU2 hU3
      rw [List.drop_eq_getElem_cons hlt] at pU
      unfold dCompL at pU
      have stT := stU.trans stY
      cases qg : g ds[i] (wipeE r (own.map (·.2))) with
      | none => rw [qg] at pU; exact (show False from pU).elim
      | some e1 =>
        rw [qg] at pU
        dsimp only at pU
        intro s0 H0 C0 cl0 fp0
        refine hg s0 H0 C0 cl0 fp0 Y (wipeE r (own.map (·.2))) m' (wipe σ (own.map (·.2))) ds[i] x e1 _ saY (reW.stp stT) rdY qg ?_
        intro σ1 re1 bs
        refine ⟨?_, ?_⟩
        · rw [bs _ hsl]
          exact wipe_wipe _ _
        intro s0 H0 C0 cl0 fp0
        cases qc : c e1 m' with
        | stuck => rw [qc] at pU; exact (show False from pU).elim
        | exc C fs m2 => rw [qc] at pU; exact (show False from pU).elim
        | ok k m2 =>
          rw [qc] at pU
          refine ht s0 H0 C0 cl0 fp0 Y e1 m' σ1 _ saY re1 ?_
          rw [qc]
          intro k' Z stZ saZ hk
          cases (show k = k' from hk)
          obtain ⟨z1, z2, z3⟩ := stZ.frame Dd _ (by exact nofun) y1 y2 y3
          cases k with
          | false =>
            exact iteF ⟨hlt, Z, m2, acc, av, rfl, stT.trans stZ, saZ, z1, z2, z3, (rA.stp stY).stp stZ, pU⟩
          | true =>
            refine iteT ?_
            intro s0 H0 C0 cl0 fp0
            dsimp only at pU
            cases qb : b e1 m2 with
            | stuck => rw [qb] at pU; exact (show False from pU).elim
            | exc C fs m3 => rw [qb] at pU; exact (show False from pU).elim
            | ok dx m3 =>
              rw [qb] at pU
              refine he s0 H0 C0 cl0 fp0 Z e1 m2 σ1 _ saZ (re1.stp stZ) ?_
              rw [qb]
              intro vx V1 stV saV rx
              obtain ⟨w1, w2, w3⟩ := stV.frame Dd _ (by exact nofun) z1 z2 z3
              dsimp only at pU
              split at pU
              · rename_i hlen
                refine ⟨av, w1, by rw [← rA.len]; exact hlen, hlt, V1.put Dd (.lst (av ++ [vx])), m3, acc ++ [dx], av ++ [vx], rfl, ((stT.trans stZ).trans stV).hid hD, saV.hid w2 w3 (by rw [w1]; exact nofun), upd_same, w2, w3, ((((rA.stp stY).stp stZ).stp stV)).append (.cons rx .nil), pU⟩
              · exact (show False from pU).elim
    · have e : i = ds.length := by omega
      subst e
      rw [List.drop_length] at pU
      refine .inl ⟨(hJ U m' _ stU saU).2 (Nat.le_refl _), ?_⟩
      have pU : PostD X.K T (Res.ok (D.lst acc) m') Q (fun c d H => Fly X c d σ H) := pU
      exact pU (.ref Dd) (U.keep Dd (.lst av)) (stU.kept hD hU2) (saU.keep hU1 hU2 hU3 (by exact nofun)) (.lst (.inl (.inl upd_same)) (rA.mono (List.prefix_refl _) (Ext.updNew hU2)))

theorem pd_lcW (hi : PDIS X tg iter t) (hN : X.N.Nodup) (ok : BlkOk X.N X.env.scope scope own)
    (hg : ∀ s H C cl fp, PDG (Bk X scope s H C cl fp) tg g sl) (ht : ∀ s H C cl fp, PDTs (Bk X scope s H C cl fp) ifs c) (he : ∀ s H C cl fp, PDE (Bk X scope s H C cl fp) elt b)
    (hc : X.calm = true) (hsl : ∀ i ∈ sl, i ∈ own.map (·.2) := by decide) (hs : ∀ x, foldedSetIterable iter X.env x = pure x := by intro _; rfl) :
    PDE X (.ListComp elt [⟨tg, iter, ifs, 0⟩] scope pos) (dComp t g c b (own.map (·.2))) :=
  pd_of (pe_lcS (g := bG X scope tg) (tt := bT X scope ifs) (te := bE X scope elt) hc hN (mxIS X tg iter) ok (fun s H C cl fp => ⟨fun pins s1 σ H1 v u Q I r h => h s H C cl fp pins s1 u I r⟩) (fun s H C cl fp => ⟨fun pins s1 σ H1 Q I h => h s H C cl fp pins s1 I⟩) (fun s H C cl fp => ⟨fun pins s1 σ H1 Q I h => h s H C cl fp pins s1 I⟩) hs)
    fun S r m σ Q sa re p => lc_goW hi hg ht he hsl sa re p
end
end DL

set_option maxHeartbeats 4000000
/-! sum, sorted of whole numbers, sorted of pairs of whole numbers -/
namespace DL
open PySem PySem.Spec PyProof.Rows L2
variable [LamTab]
/-! ### sorting, as a function -/
def insB {α : Type} (lt : α → α → Bool) (x : α) : List α → List α
  | [] => [x]
  | y :: ys => if lt y x then y :: insB lt x ys else x :: y :: ys
def srtB {α : Type} (lt : α → α → Bool) : List α → List α
  | [] => []
  | x :: xs => insB lt x (srtB lt xs)
theorem insB_perm {α : Type} (lt : α → α → Bool) (x : α) : ∀ ys : List α, (insB lt x ys).Perm (x :: ys)
  | [] => List.Perm.refl _
  | y :: ys => by
    unfold insB
    split
    · exact ((insB_perm lt x ys).cons y).trans (List.Perm.swap x y ys)
    · exact List.Perm.refl _
theorem srtB_perm {α : Type} (lt : α → α → Bool) : ∀ xs : List α, (srtB lt xs).Perm xs
  | [] => List.Perm.refl _
  | x :: xs => (insB_perm lt x _).trans ((srtB_perm lt xs).cons x)
theorem insB_srtd {α : Type} {lt : α → α → Bool} (O : SrtO.Swo lt) (x : α) : ∀ ys : List α, SrtO.Srtd lt ys → SrtO.Srtd lt (insB lt x ys)
  | [], _ => List.pairwise_singleton _ _
  | y :: ys, h => by
    unfold insB
    split
    · rename_i hl
      refine List.pairwise_cons.mpr ⟨fun z hz => ?_, insB_srtd O x ys (List.pairwise_cons.mp h).2⟩
      rcases List.mem_cons.mp ((insB_perm lt x ys).mem_iff.mp hz) with e | hz
      · subst e; exact O.asym _ _ hl
      · exact (List.pairwise_cons.mp h).1 z hz
    · rename_i hl
      have hl : lt y x = false := by cases q : lt y x <;> simp_all
      refine List.pairwise_cons.mpr ⟨fun z hz => ?_, h⟩
      rcases List.mem_cons.mp hz with e | hz
      · subst e; exact hl
      · exact O.tr x y z hl ((List.pairwise_cons.mp h).1 z hz)
theorem srtB_srtd {α : Type} {lt : α → α → Bool} (O : SrtO.Swo lt) : ∀ xs : List α, SrtO.Srtd lt (srtB lt xs)
  | [] => List.Pairwise.nil
  | x :: xs => insB_srtd O x _ (srtB_srtd O xs)
theorem srtd_uniq {α : Type} {lt : α → α → Bool} (an : ∀ x y, lt x y = false → lt y x = false → x = y) : ∀ {xs ys : List α}, xs.Perm ys → SrtO.Srtd lt xs → SrtO.Srtd lt ys → xs = ys
  | [], ys, p, _, _ => (List.Perm.eq_nil p.symm).symm
  | x :: xs, [], p, _, _ => absurd p.length_eq (by simp)
  | x :: xs, y :: ys, p, hx, hy => by
    have e : x = y := by
      have m1 := p.mem_iff.mp (List.mem_cons_self (a := x) (l := xs))
      have m2 := p.mem_iff.mpr (List.mem_cons_self (a := y) (l := ys))
      rcases List.mem_cons.mp m1 with e | m1
      · exact e
      · rcases List.mem_cons.mp m2 with e | m2
        · exact e.symm
        · exact an x y ((List.pairwise_cons.mp hy).1 x m1) ((List.pairwise_cons.mp hx).1 y m2)
    subst e
    rw [srtd_uniq an (List.Perm.cons_inv p) (List.pairwise_cons.mp hx).2 (List.pairwise_cons.mp hy).2]
def ltI (x y : Int) : Bool := decide (x < y)
theorem swo_ltI : SrtO.Swo ltI := by
  refine ⟨fun x y h => ?_, fun x y z h1 h2 => ?_⟩
  · have a := of_decide_eq_true (p := x < y) h
    exact decide_eq_false (p := y < x) (by omega)
  · have a := of_decide_eq_false (p := y < x) h1
    have b := of_decide_eq_false (p := z < y) h2
    exact decide_eq_false (p := z < x) (by omega)
theorem an_ltI (x y : Int) (h1 : ltI x y = false) (h2 : ltI y x = false) : x = y := by
  have a := of_decide_eq_false (p := x < y) h1
  have b := of_decide_eq_false (p := y < x) h2
  omega
abbrev ltPP (x y : Int × Int) : Bool := SrtO.lexB x y
theorem swo_ltPP : SrtO.Swo ltPP := by
  refine ⟨fun x y h => ?_, fun x y z h1 h2 => ?_⟩
  · have a := SrtO.lexB_iff.mp h
    refine SrtO.lexB_no.mpr ?_
    omega
  · have a := SrtO.lexB_no.mp h1
    have b := SrtO.lexB_no.mp h2
    refine SrtO.lexB_no.mpr ?_
    omega
theorem an_ltPP (x y : Int × Int) (h1 : ltPP x y = false) (h2 : ltPP y x = false) : x = y := by
  have a := SrtO.lexB_no.mp h1
  have b := SrtO.lexB_no.mp h2
  exact Prod.ext (by omega) (by omega)
def sortI (xs : List Int) : List Int := srtB ltI xs
def sortP (xs : List (Int × Int)) : List (Int × Int) := srtB ltPP xs
theorem sortI_uniq {xs ys : List Int} (p : ys.Perm xs) (h : ys.Pairwise (· ≤ ·)) : ys = sortI xs :=
  srtd_uniq an_ltI (p.trans (srtB_perm ltI xs).symm) (h.imp fun {x y} h => decide_eq_false (p := y < x) (by omega)) (srtB_srtd swo_ltI xs)
theorem sortP_uniq {xs ys : List (Int × Int)} (p : ys.Perm xs) (h : SrtO.Srtd ltPP ys) : ys = sortP xs :=
  srtd_uniq an_ltPP (p.trans (srtB_perm ltPP xs).symm) h (srtB_srtd swo_ltPP xs)
/-! ### the rules -/
section
variable {X : Cx}
def gSumL : DFn := fun ds m => match ds with
  | [d] => match (seqL m d).bind toIs with
    | some ns => .ok (.int ns.sum) m
    | _ => .stuck
  | _ => .stuck
@[simp] theorem gSumL_ap (d : D) (m : Mu) : gSumL [d] m = match (seqL m d).bind toIs with
    | some ns => .ok (.int ns.sum) m
    | _ => .stuck := rfl
theorem oc_sumL (hc : X.calm = true) : OC X (.builtin "sum") gSumL := by
  refine oc_of (cr_sum hc) fun S m ds xs Q W sa rs p => ?_
  unfold gSumL at p
  split at p
  · rename_i d
    cases q : seqL m d with
    | none => rw [q] at p; exact (show False from p).elim
    | some es =>
      rw [q] at p
      cases q2 : toIs es with
      | none => rw [show (some es).bind toIs = toIs es from rfl, q2] at p; exact (show False from p).elim
      | some bs =>
        rw [show (some es).bind toIs = toIs es from rfl, q2] at p
        obtain ⟨v, rfl, r⟩ := reps1 rs
        obtain ⟨a, ys, rfl, h1, h2⟩ := seqL_ok sa r q
        have := toIs_ok h2 q2
        subst this
        exact ⟨a, bs, rfl, h1, Post.ok p (Stp.refl S) sa (.int _)⟩
  · exact p.elim
theorem reps_intsM {K : PySem.W.Frag} {i : List Addr} {F : Hp} : ∀ ns : List Int, Reps K i F (ns.map D.int) (ns.map V.int)
  | [] => .nil
  | n :: ns => .cons (.int n) (reps_intsM ns)
/-- sorted(xs), whole numbers: a new list, never changed -/
def gSortI : DFn := fun ds m => match ds with
  | [d] => match (seqL m d).bind toIs with
    | some ns => .ok (.lst ((sortI ns).map .int)) m
    | _ => .stuck
  | _ => .stuck
@[simp] theorem gSortI_ap (d : D) (m : Mu) : gSortI [d] m = match (seqL m d).bind toIs with
    | some ns => .ok (.lst ((sortI ns).map .int)) m
    | _ => .stuck := rfl
theorem oc_sortI : OC X (.builtin "sorted") gSortI := by
  refine oc_of cr_sortedI fun S m ds xs Q W sa rs p => ?_
  unfold gSortI at p
  split at p
  · rename_i d
    cases q : seqL m d with
    | none => rw [q] at p; exact (show False from p).elim
    | some es =>
      rw [q] at p
      cases q2 : toIs es with
      | none => rw [show (some es).bind toIs = toIs es from rfl, q2] at p; exact (show False from p).elim
      | some bs =>
        rw [show (some es).bind toIs = toIs es from rfl, q2] at p
        obtain ⟨v, rfl, r⟩ := reps1 rs
        obtain ⟨a, ys, rfl, h1, h2⟩ := seqL_ok sa r q
        have := toIs_ok h2 q2
        subst this
        refine ⟨a, bs, rfl, h1, fun ns' l pm so hl => ?_⟩
        rw [sortI_uniq pm so]
        have st := Stp.new sa (o := .lst ((sortI bs).map V.int)) hl
        exact p (.ref l) (S.new l (.lst ((sortI bs).map V.int))) st (sa.new hl) (.lst (.inl (.inl upd_same)) (reps_intsM _))
  · exact p.elim
/-! pairs -/
def prD (p : Int × Int) : D := .tup [.int p.1, .int p.2]
def toPrs : List D → Option (List (Int × Int))
  | [] => some []
  | .tup [.int a, .int b] :: ds => match toPrs ds with
    | some ps => some ((a, b) :: ps)
    | none => none
  | _ => none
@[simp] theorem toPrs_map : ∀ ps : List (Int × Int), toPrs (ps.map prD) = some ps
  | [] => rfl
  | p :: ps => by
    show (match toPrs (ps.map prD) with | some ps => some ((p.1, p.2) :: ps) | none => none) = _
    rw [toPrs_map ps]
theorem toPrs_is : ∀ {ds : List D} {ps : List (Int × Int)}, toPrs ds = some ps → ds = ps.map prD
  | [], _, h => by cases h; rfl
  | d :: ds, ps, h => by
    unfold toPrs at h
    split at h
    · rename_i e; cases e
    · rename_i e
      cases e
      split at h
      · rename_i q
        cases h
        rw [toPrs_is q]; rfl
      · cases h
    · cases h
open Classical in
noncomputable def kyV (h : Heap) (v : Value) : Int × Int := if q : ∃ p : Int × Int, Srt.IsPair h v p.1 p.2 then Classical.choose q else (0, 0)
theorem pair_inj {h : Heap} {v : Value} {x y x' y' : Int} (a : Srt.IsPair h v x y) (b : Srt.IsPair h v x' y') : x = x' ∧ y = y' := by
  obtain ⟨a1, o1, t1, u1, n1, e1, g1, c1, d1⟩ := a
  obtain ⟨a2, o2, t2, u2, n2, e2, g2, c2, d2⟩ := b
  rw [e1] at e2; cases e2
  rw [g1] at g2; cases g2
  rw [d1] at d2
  injection d2 with k1 _
  have k2 := congrArg Array.toList k1
  simp at k2
  exact ⟨k2.1.1, k2.2.1⟩
theorem kyV_of {h : Heap} {v : Value} {p : Int × Int} (a : Srt.IsPair h v p.1 p.2) : kyV h v = p := by
  have q : ∃ p : Int × Int, Srt.IsPair h v p.1 p.2 := ⟨p, a⟩
  unfold kyV
  rw [dif_pos q]
  obtain ⟨k1, k2⟩ := pair_inj (Classical.choose_spec q) a
  exact Prod.ext k1 k2
theorem reps_prs {pins : List (Addr × Obj)} {s : Shared} {σ : L2.St} {S : Wd} (I : Inv X pins σ S.H s) (sub : Ext S.F S.H) : ∀ (ps : List (Int × Int)) (xs : List V) (us : List Value), Reps X.K S.i S.F (ps.map prD) xs → Vals xs us →
    us.map (kyV s.heap) = ps ∧ ∀ v ∈ us, (∃ a, v = Value.ref a) ∧ Rep X.K S.i S.F (prD (kyV s.heap v)) (backV v) ∧ Srt.IsPair s.heap v (kyV s.heap v).1 (kyV s.heap v).2
  | [], _, _, .nil, .nil => ⟨rfl, fun v hv => absurd hv (by simp)⟩
  | p :: ps, _, _, .cons r rs, .cons rv rvs => by
    obtain ⟨h1, h2⟩ := reps_prs I sub ps _ _ rs rvs
    have r0 := r
    cases r with
    | tup hs hr =>
      obtain ⟨its, ri, ht, _⟩ := I.tuple (SqT.ext' hs sub)
      cases hr with
      | cons ra hr =>
        cases hr with
        | cons rb hr =>
          cases hr
          cases ra
          cases rb
          obtain ⟨u1, u2, rfl, q1, q2⟩ := vals2 ri
          obtain ⟨t1, rfl⟩ := q1
          obtain ⟨t2, rfl⟩ := q2
          obtain ⟨o, ho, hc, n, hd⟩ := ht
          cases rv
          have ip : Srt.IsPair s.heap (Value.ref _) p.1 p.2 := ⟨_, o, t1, t2, n, rfl, ho, hc, hd⟩
          have ke := kyV_of ip
          refine ⟨by rw [List.map_cons, ke, h1], fun v hv => ?_⟩
          rcases List.mem_cons.mp hv with e | hv
          · subst e
            rw [ke]
            exact ⟨⟨_, rfl⟩, r0, ip⟩
          · exact h2 v hv
theorem reps_of {K : PySem.W.Frag} {i : List Addr} {F : Hp} {f : Value → Int × Int} : ∀ out : List Value, (∀ v ∈ out, Rep K i F (prD (f v)) (backV v)) → Reps K i F ((out.map f).map prD) (out.map backV)
  | [], _ => .nil
  | v :: out, h => .cons (h v (by simp)) (reps_of out fun u hu => h u (by simp [hu]))
/-- sorted(xs), pairs of whole numbers: a new list, never changed -/
def gSortP : DFn := fun ds m => match ds with
  | [d] => match (seqL m d).bind toPrs with
    | some ns => .ok (.lst ((sortP ns).map prD)) m
    | _ => .stuck
  | _ => .stuck
@[simp] theorem gSortP_ap (d : D) (m : Mu) : gSortP [d] m = match (seqL m d).bind toPrs with
    | some ns => .ok (.lst ((sortP ns).map prD)) m
    | _ => .stuck := rfl
theorem oc_sortP : OC X (.builtin "sorted") gSortP := by
  intro pins s σ S m ds xs us Q sa rs rv I p
  unfold gSortP at p
  split at p
  · rename_i d
    cases q : seqL m d with
    | none => rw [q] at p; exact (show False from p).elim
    | some es =>
      rw [q] at p
      cases q2 : toPrs es with
      | none => rw [show (some es).bind toPrs = toPrs es from rfl, q2] at p; exact (show False from p).elim
      | some bs =>
        rw [show (some es).bind toPrs = toPrs es from rfl, q2] at p
        obtain ⟨v, rfl, r⟩ := reps1 rs
        obtain ⟨a, ys, rfl, h1, h2⟩ := seqL_ok sa r q
        have he := toPrs_is q2
        subst he
        obtain ⟨its, rvi, hl, hz⟩ := I.list h1
        obtain ⟨u, rfl, ru⟩ := vals1 rv
        obtain rfl : u = Value.ref a := ru
        obtain ⟨k1, k2⟩ := reps_prs I sa.sub bs ys its h2 rvi
        refine SrtO.sorted_pairsO (k := kyV s.heap) hl.isList (by rw [← rvi.length]; exact hz) (fun v hv => (k2 v hv).2.2) fun h' d out o1 o2 kp hd hn => ?_
        have h3 : ∀ u ∈ out, ∃ a, u = Value.ref a := fun u hu => (k2 u (o2.perm.mem_iff.mp hu)).1
        obtain ⟨n, hn⟩ := hn
        have hfr : S.H d = none := I.hok.fresh hd
        have om : out.map (kyV s.heap) = sortP bs := by
          refine sortP_uniq ?_ (List.pairwise_map.mpr o1)
          rw [← k1]
          exact o2.perm.map _
        have st := Stp.new sa (o := .lst (out.map backV)) hfr
        have rp : Reps X.K S.i S.F ((sortP bs).map prD) (out.map backV) := by
          rw [← om]
          exact reps_of out fun v hv => (k2 v (o2.perm.mem_iff.mp hv)).2.1
        refine ⟨.ref d, upd S.H d (.lst (out.map backV)), I.laid (t' := s.toks) kp hd ⟨?_, out, n, vals_back h3, hn⟩, rfl, ?_⟩
        · rw [List.length_map, o2.perm.length_eq, ← rvi.length]
          exact hz
        · exact p (.ref d) (S.new d (.lst (out.map backV))) st (sa.new hfr) (.lst (.inl (.inl upd_same)) (rp.stp st))
  · exact p.elim
end
end DL

set_option maxHeartbeats 4000000
/-! {e for x in xs} of whole numbers, and its sorted list -/
namespace L2
open PySem PySem.Spec PyProof.Rows
open PpSet (newSet_ok eval_SetComp codeAny_compStart_set compLoopS_any)
section
variable {X : Cx}
theorem addI_ok {pins : List (Addr × Obj)} {σ : L2.St} {H : Hp} {s : Shared} {E : Value → Shared → Prop} {D : Addr} {S : Int → Bool} {n : Nat} {y : Int} {tk : Tok} {Q : Value → Shared → Prop} (I : Inv X pins σ H s) (hD : H D = some (SetO X.w D S n)) (room : n + 1 < scanBound)
    (h : ∀ s', Inv X pins σ (upd H D (SetO X.w D (fun j => S j || decide (j = y)) (if S y = true then n else n + 1))) s' → Q .none s') : wpAny (model X.prog X.w) X.A (call (.builtin "set.add") [.ref D, .int y tk]) Q E s := by
  have R := setO_get I hD
  refine setR_add R room fun h' sb new => ?_
  have he : ∃ u, h'.get? D = some u := by
    have ⟨o, _, _, _, ho, _⟩ := new
    exact ⟨o, ho⟩
  exact h _ (I.write (e := D) (t' := s.toks + 1) (by rw [hD]; trivial) (.inl rfl) (fun b u hb hu => (sb.2 b hb).trans hu) he (setO_new new))
/-- {e for g in xs if ..}, whole numbers -/
def tScI (w : World) (wi : TI) (g : TG) (tt : TT) (te : TE) (vs : List Nat) : TE := fun σ H Q => wi σ H fun J H1 => ∀ D, H1 D = none → ∃ W : Nat → Nat → Hp → Prop, (∃ m, W 0 m (upd H1 D (SetO w D (fun _ => false) 0))) ∧ ∀ i m H, W i m H →
  (J.stop i H ∧ Q (.ref D) H) ∨ (J.go i H ∧ ∃ Nx : Hp → Prop, (∀ H', Nx H' → ∃ m', m' < m ∧ W (i + 1) m' H') ∧ ∀ x H', J.yld i H x H' → g x (wipe σ vs) H' fun σ2 H2 => wipe σ2 vs = wipe σ vs ∧ tt σ2 H2 fun b H3 =>
    if b = true then te σ2 H3 fun y H4 => ∃ (c : Int) (S : Int → Bool) (n : Nat), y = .int c ∧ H4 D = some (SetO w D S n) ∧ n + 1 < scanBound ∧ Nx (upd H4 D (SetO w D (fun j => S j || decide (j = c)) (if S c = true then n else n + 1))) else Nx H3)
theorem scI_core {pins : List (Addr × Obj)} {s : Shared} {σ : L2.St} {H : Hp} {Q : VK} {elt tg iter : Expr} {ifs : List Expr} {scope : Scope} {own : List (PySem.Str × Nat)} {pos pos' : Pos} {wi : TI} {g : TG} {tt : TT} {te : TE} {use : Option (Value → Sem Unit)} {Qf : Value → Shared → Prop}
    (hc : X.calm = true) (hN : X.N.Nodup) (I : Inv X pins σ H s) (hi : PI X tg iter wi) (ok : BlkOk X.N X.env.scope scope own)
    (hg : ∀ (s : Shared) (H : Hp) (C : Addr) (cl : List (PySem.Str × Addr)) (fp : List Addr), PG (X.blk s H scope (compEnvC scope cl C X.env) fp) tg g) (ht : ∀ (s : Shared) (H : Hp) (C : Addr) (cl : List (PySem.Str × Addr)) (fp : List Addr), PTs (X.blk s H scope (compEnvC scope cl C X.env) fp) ifs tt)
    (he : ∀ (s : Shared) (H : Hp) (C : Addr) (cl : List (PySem.Str × Addr)) (fp : List Addr), PE (X.blk s H scope (compEnvC scope cl C X.env) fp) elt te) (hs : ∀ x, foldedSetIterable iter X.env x = pure x)
    (h : tScI X.w wi g tt te (own.map (·.2)) σ H Q)
    (hRR : ∀ D C s' m H', Inv X pins σ H' s' → Q (.ref D) H' → s'.heap.Ns C m → FpOk X pins H' C → compPost (model X.prog X.w) X.A X.xe use Qf (.ref D) C (.ok .next) s') :
    wpAny (model X.prog X.w) X.A (comprehension (.SetComp elt [⟨tg, iter, ifs, 0⟩] scope pos) scope X.env pos' (newSet (.type "set")) false (eval iter X.env) use) Qf X.xe s := by
  have hfree : ∀ y ∈ scope.names, y.2 = .free → ∃ c, X.env.cells.lookup y.1 = some c := fun y hy e => by
    rcases ok.free y hy e with k | k
    · exact I.ok.has _ (.inl k)
    · exact I.ok.has _ (.inr k)
  refine wpAny_comprehension_free (use := use) rfl hs (closure_ok hfree) ok.kind (fun y hy e => by rw [ok.uniq y hy, e])
    (thn (hi.run pins s σ H _ I h) fun xv s1 hx => thn hx fun itv s2 h2 => ?_)
  obtain ⟨it, fp, tn, J, H2, e, I2, T, st2, f2, q⟩ := h2
  subst e
  refine newSet_ok (newEnv_comp ?_)
  generalize hD : s2.heap.objs.size = D
  have hDn : H2 D = none := I2.hok.fresh (Nat.le_of_eq hD)
  obtain ⟨W, ⟨m0, w0⟩, turn⟩ := q D hDn
  -- the new list
  generalize hs3 : ({ s2 with heap := s2.heap.push { cls := .type "set", dict := none, data := .set #[] 0 (.fresh 0 0 (!X.w.params.followText "set-order")) } } : Shared) = s3
  have I3 : Inv X pins σ (upd H2 D (SetO X.w D (fun _ => false) 0)) s3 := by
    rw [← hs3]
    refine I2.laid (t' := s2.toks) (fun b o e => Heap.get?_push_of_some _ e) (Nat.le_of_eq hD) ?_
    rw [← hD]
    exact setO_new (setR_fresh X.w)
  have h3 : s3.heap = s2.heap.push { cls := .type "set", dict := none, data := .set #[] 0 (.fresh 0 0 (!X.w.params.followText "set-order")) } := by rw [← hs3]
  have sz : ∀ b ∈ fp, b < s2.heap.objs.size := fun b hb => by
    obtain ⟨o, e, _⟩ := T.obj _ _ st2 b hb
    exact Heap.lt_size e
  have f3 : ∀ b ∈ fp, FpOk X pins (upd H2 D (SetO X.w D (fun _ => false) 0)) b ∧ b < s3.heap.objs.size := fun b hb => by
    have hlt := sz b hb
    refine ⟨⟨?_, (f2 b hb).2⟩, by rw [h3, Heap.size_push]; exact Nat.lt_succ_of_lt hlt⟩
    rw [upd_ne (by rw [← hD]; exact Nat.ne_of_lt hlt)]
    exact (f2 b hb).1
  have st3 : tn 0 s3.heap := T.keep _ _ _ st2 fun b _ o e => by rw [h3]; exact Heap.get?_push_of_some _ e
  have I4 := block_start I3 ok hN f3
  have pg := hg s3 (upd H2 D (SetO X.w D (fun _ => false) 0)) s3.heap.objs.size (cellsFrom (s3.heap.objs.size + 1) scope.names (cloFrom X.env.cells scope.names [])) fp
  have pt := ht s3 (upd H2 D (SetO X.w D (fun _ => false) 0)) s3.heap.objs.size (cellsFrom (s3.heap.objs.size + 1) scope.names (cloFrom X.env.cells scope.names [])) fp
  have pe := he s3 (upd H2 D (SetO X.w D (fun _ => false) 0)) s3.heap.objs.size (cellsFrom (s3.heap.objs.size + 1) scope.names (cloFrom X.env.cells scope.names [])) fp
  show codeAny _ _ (.compStart (.SetComp elt [⟨tg, iter, ifs, 0⟩] scope pos) 0 (.ref it) (.ref D) (compEnvC scope (cellsFrom (s3.heap.objs.size + 1) scope.names (cloFrom X.env.cells scope.names [])) s3.heap.objs.size X.env)) (compPost (model X.prog X.w) X.A X.xe use Qf (.ref D) s3.heap.objs.size) { s3 with heap := pushCells (s3.heap.push { cls := .type "dict", data := .dict #[] }) scope.names }
  have nfp : ∀ b ∈ fp, (upd H2 D (SetO X.w D (fun _ => false) 0)) b = none := fun b hb => (f3 b hb).1.1
  generalize hce : compEnvC scope (cellsFrom (s3.heap.objs.size + 1) scope.names (cloFrom X.env.cells scope.names [])) s3.heap.objs.size X.env = ce at I4 pg pt pe ⊢
  have cL : ce.locals = s3.heap.objs.size := by subst hce; rfl
  generalize hH3 : upd H2 D (SetO X.w D (fun _ => false) 0) = H3 at I3 I4 pg pt pe w0 nfp f3
  generalize hs4 : ({ s3 with heap := pushCells (s3.heap.push { cls := .type "dict", data := .dict #[] }) scope.names } : Shared) = s4 at I4 ⊢
  have st4 : tn 0 s4.heap := T.keep _ _ _ st3 fun b _ o e => by rw [← hs4]; exact pushCells_keeps _ _ _ _ (Heap.get?_push_of_some _ e)
  have stat : ∀ {σ' : L2.St} {H' : Hp} {s' : Shared}, Inv (X.blk s3 H3 scope ce fp) [] σ' H' s' → (∀ b ∈ fp, H' b = none) → ∀ b ∈ fp, FpOk (X.blk s3 H3 scope ce fp) [] H' b := fun {σ' H' s'} I' hn b hb =>
    ⟨hn b hb, (I'.ok.exf b hb).1, I'.ok.exfs b hb, .inl hb, fun x c e => (I'.ok.exf b hb).2 x c e, fun p hp => absurd (show p ∈ ([] : List (Addr × Obj)) ++ [] from hp) (by simp)⟩
  have loop : codeAny (model X.prog X.w) X.A (.compLoop (.SetComp elt [⟨tg, iter, ifs, 0⟩] scope pos) 0 (.ref it) (.ref D) ce) (compPost (model X.prog X.w) X.A X.xe use Qf (.ref D) s3.heap.objs.size) s4 := by
    refine compLoopS_any (fun n s' => ∃ i H', Inv (X.blk s3 H3 scope ce fp) [] (wipe σ (own.map (·.2))) H' s' ∧ tn i s'.heap ∧ (∀ b ∈ fp, H' b = none) ∧ W i n H') ?_ m0 ⟨0, H3, I4, st4, nfp, w0⟩
    rintro n s5 ⟨i, H5, I5, st5, n5, w5⟩
    rcases turn i n H5 w5 with ⟨stop, qq⟩ | ⟨go, Nx, hNx, step⟩
    · have td := T.done (X.blk s3 H3 scope ce fp) rfl rfl rfl hc i [] s5 _ H5 (fun _ _ => False) I5 (stat I5 n5) st5 stop
      refine thnF td fun r s6 ⟨hr, I6⟩ => ?_
      subst hr
      -- back in the def's context
      have I7 : Inv X pins σ H5 s6 := I3.call' (ch := fp) I6.os I6.base I6.hok I6.bare fun b hb => ⟨(f3 b hb).1.2.2.2.1, (f3 b hb).1.2.1, (f3 b hb).1.2.2.2.2.1, (f3 b hb).1.2.2.2.2.2⟩
      have nC : H5 s3.heap.objs.size = none := by
        have z : H5 ce.locals = none := I6.free
        rw [cL] at z
        exact z
      obtain ⟨m, hn, _⟩ := I6.loc
      have hn : s6.heap.Ns ce.locals m := hn
      rw [cL] at hn
      exact hRR D s3.heap.objs.size s6 m H5 I7 qq hn (I3.fpOk (Nat.le_refl _) nC)
    · have ti := T.item (X.blk s3 H3 scope ce fp) rfl rfl rfl hc i [] s5 _ H5 (fun _ _ => False) I5 (stat I5 n5) st5 go
      refine thnF ti fun r s6 ⟨u, hr, h6⟩ => ?_
      subst hr
      refine thnF h6 fun _ s7 ⟨x, H7, I7, r7, y7, st7, n7⟩ => ?_
      have I7' := I7.pinned (stat I7 n7) (T.obj _ _ st7)
      refine thnF (pg.run _ s7 _ H7 x u _ I7' r7 (step x H7 y7)) fun _ s8 ⟨σ8, H8, I8, hw8, q8⟩ => ?_
      refine thnF (pt.run _ s8 σ8 H8 _ I8 q8) fun b s9 ⟨H9, I9, q9⟩ => ?_
      -- the turn's end
      have fin : ∀ {s' : Shared} {H' : Hp}, Inv (X.blk s3 H3 scope ce fp) ([] ++ pinsAt fp s7.heap) σ8 H' s' → Nx H' → ∃ m, m < n ∧ ∃ i H', Inv (X.blk s3 H3 scope ce fp) [] (wipe σ (own.map (·.2))) H' s' ∧ tn i s'.heap ∧ (∀ b ∈ fp, H' b = none) ∧ W i m H' := fun {s' H'} I' nx => by
        obtain ⟨m', hm, w'⟩ := hNx H' nx
        have pin' : ∀ b ∈ fp, ∀ o, s7.heap.get? b = some o → s'.heap.get? b = some o ∧ H' b = none := fun b hb o e =>
          let z := I'.pin (b, o) (List.mem_append_right _ (List.mem_append_right _ (mem_pinsAt hb e)))
          ⟨z.1, z.2.1⟩
        have hl : (wipe σ (own.map (·.2))).length = σ8.length := by rw [← hw8, wipe_length]
        refine ⟨m', hm, i + 1, H', (I'.unpinned (pins := [])).weak hl (fun j v e => ?_), T.keep _ _ _ st7 fun b hb o e => (pin' b hb o e).1, fun b hb => ?_, w'⟩
        · rw [← hw8] at e
          exact (wipe_some e).1
        · obtain ⟨o, e, _⟩ := T.obj _ _ st7 b hb
          exact (pin' b hb o e).2
      cases b with
      | false =>
        simp only [Bool.false_eq_true, if_false] at q9 ⊢
        exact fin I9 q9
      | true =>
        simp only [if_true] at q9 ⊢
        refine thnF (pe.run _ s9 σ8 H9 _ I9 q9) fun z s10 ⟨yv, H10, I10, r10, cb, S0, n0, ey, hD10, hz10, nx⟩ => ?_
        subst ey
        obtain ⟨tk, rfl⟩ : ∃ t, z = Value.int cb t := r10
        exact addI_ok (X := X.blk s3 H3 scope ce fp) I10 hD10 hz10 fun s11 I11 => fin I11 nx
  exact codeAny_compStart_set loop (T.self X.A 0 _ _ _ st4 loop)
/-- as a value -/
theorem pe_scI {elt tg iter : Expr} {ifs : List Expr} {scope : Scope} {own : List (PySem.Str × Nat)} {pos : Pos} {wi : TI} {g : TG} {tt : TT} {te : TE} (hc : X.calm = true) (hN : X.N.Nodup) (hi : PI X tg iter wi) (ok : BlkOk X.N X.env.scope scope own)
    (hg : ∀ (s : Shared) (H : Hp) (C : Addr) (cl : List (PySem.Str × Addr)) (fp : List Addr), PG (X.blk s H scope (compEnvC scope cl C X.env) fp) tg g) (ht : ∀ (s : Shared) (H : Hp) (C : Addr) (cl : List (PySem.Str × Addr)) (fp : List Addr), PTs (X.blk s H scope (compEnvC scope cl C X.env) fp) ifs tt)
    (he : ∀ (s : Shared) (H : Hp) (C : Addr) (cl : List (PySem.Str × Addr)) (fp : List Addr), PE (X.blk s H scope (compEnvC scope cl C X.env) fp) elt te) (hs : ∀ x, foldedSetIterable iter X.env x = pure x := by intro _; rfl) :
    PE X (.SetComp elt [⟨tg, iter, ifs, 0⟩] scope pos) (tScI X.w wi g tt te (own.map (·.2))) := by
  refine ⟨fun pins s σ H Q I h => ?_⟩
  rw [eval_SetComp]
  refine scI_core hc hN I hi ok hg ht he hs h fun D C s' m H' I' q hn f => ⟨m, hn, fun h'' sb => ?_⟩
  obtain ⟨f0, f1, f2, f3, f4, f5⟩ := f
  exact ⟨.ref D, H', I'.turned (t' := s'.toks) (fun b o hb e => (sb.2 b hb).trans e) f0 f1 f3 f4 f5, rfl, q⟩
end
end L2
namespace DL
open PySem PySem.Spec PyProof.Rows L2
variable [LamTab]
/-! ### the members of a list, ascending -/
def insU (x : Int) : List Int → List Int
  | [] => [x]
  | y :: ys => if y < x then y :: insU x ys else if x = y then y :: ys else x :: y :: ys
def setI : List Int → List Int
  | [] => []
  | x :: xs => insU x (setI xs)
theorem insU_mem (x k : Int) : ∀ ys : List Int, k ∈ insU x ys ↔ k = x ∨ k ∈ ys
  | [] => by simp [insU]
  | y :: ys => by
    have ih := insU_mem x k ys
    unfold insU
    split
    · simp only [List.mem_cons, ih]
      constructor <;> (intro h; rcases h with h | h | h <;> simp [h])
    · split
      · rename_i e
        subst e
        simp
      · simp
theorem setI_mem (k : Int) : ∀ xs : List Int, k ∈ setI xs ↔ k ∈ xs
  | [] => by simp [setI]
  | x :: xs => by
    show k ∈ insU x (setI xs) ↔ _
    rw [insU_mem, setI_mem k xs, List.mem_cons]
theorem insU_asc (x : Int) : ∀ ys : List Int, ys.Pairwise (· < ·) → (insU x ys).Pairwise (· < ·)
  | [], _ => List.pairwise_singleton _ _
  | y :: ys, h => by
    unfold insU
    split
    · rename_i hl
      refine List.pairwise_cons.mpr ⟨fun z hz => ?_, insU_asc x ys (List.pairwise_cons.mp h).2⟩
      rcases (insU_mem x z ys).mp hz with e | hz
      · omega
      · exact (List.pairwise_cons.mp h).1 z hz
    · split
      · exact h
      · rename_i h1 h2
        refine List.pairwise_cons.mpr ⟨fun z hz => ?_, h⟩
        rcases List.mem_cons.mp hz with e | hz
        · omega
        · have := (List.pairwise_cons.mp h).1 z hz
          omega
theorem setI_asc : ∀ xs : List Int, (setI xs).Pairwise (· < ·)
  | [] => List.Pairwise.nil
  | x :: xs => insU_asc x _ (setI_asc xs)
theorem asc_uniq : ∀ {xs ys : List Int}, xs.Pairwise (· < ·) → ys.Pairwise (· < ·) → (∀ k, k ∈ xs ↔ k ∈ ys) → xs = ys
  | [], [], _, _, _ => rfl
  | [], y :: ys, _, _, h => absurd ((h y).mpr (by simp)) (by simp)
  | x :: xs, [], _, _, h => absurd ((h x).mp (by simp)) (by simp)
  | x :: xs, y :: ys, hx, hy, h => by
    have px := (List.pairwise_cons.mp hx).1
    have py := (List.pairwise_cons.mp hy).1
    have e : x = y := by
      rcases List.mem_cons.mp ((h x).mp (by simp)) with e | m1
      · exact e
      · rcases List.mem_cons.mp ((h y).mpr (by simp)) with e | m2
        · exact e.symm
        · have := px y m2
          have := py x m1
          omega
    subst e
    rw [asc_uniq (List.pairwise_cons.mp hx).2 (List.pairwise_cons.mp hy).2 fun k => by
      constructor
      · intro hk
        have := px k hk
        rcases List.mem_cons.mp ((h k).mp (by simp [hk])) with e | m
        · omega
        · exact m
      · intro hk
        have := py k hk
        rcases List.mem_cons.mp ((h k).mpr (by simp [hk])) with e | m
        · omega
        · exact m]
theorem asc_nodup {xs : List Int} (h : xs.Pairwise (· < ·)) : xs.Nodup := h.imp fun h e => by omega
theorem setI_len (xs : List Int) : (setI xs).length ≤ xs.length :=
  List.Nodup.length_le_of_subset (asc_nodup (setI_asc xs)) fun k hk => (setI_mem k xs).mp hk
/-- a new member, behind -/
theorem setI_snoc (xs : List Int) (y : Int) : (setI (xs ++ [y])).length = if y ∈ xs then (setI xs).length else (setI xs).length + 1 := by
  have a := setI_asc (xs ++ [y])
  by_cases h : y ∈ xs
  · rw [if_pos h, asc_uniq a (setI_asc xs) fun k => by
      rw [setI_mem, setI_mem, List.mem_append, List.mem_singleton]
      constructor
      · rintro (h1 | rfl)
        · exact h1
        · exact h
      · exact fun h1 => .inl h1]
  · rw [if_neg h]
    have e : setI (xs ++ [y]) = insU y (setI xs) := asc_uniq a (insU_asc y _ (setI_asc xs)) fun k => by
      rw [setI_mem, insU_mem, setI_mem, List.mem_append, List.mem_singleton]
      exact or_comm
    rw [e]
    have len : ∀ ys : List Int, y ∉ ys → (insU y ys).length = ys.length + 1 := fun ys => by
      induction ys with
      | nil => intro _; rfl
      | cons z zs ih =>
        intro hn
        simp only [List.mem_cons, not_or] at hn
        unfold insU
        split
        · simp [ih hn.2]
        · rw [if_neg hn.1]; rfl
    exact len _ fun hm => h ((setI_mem y xs).mp hm)
section
variable {X : Cx}
variable {elt tg iter : Expr} {ifs : List Expr} {scope : Scope} {own : List (Str × Nat)} {pos p cpos : Pos} {t : DA} {g : DG} {c : DT} {b : DE} {sl : List Nat}
/-- the whole numbers of a comprehension -/
noncomputable def dCompI (g : DG) (c : DT) (b : DE) (e : En) : List D → Mu → List Int → Res (List Int)
  | [], m, acc => .ok acc m
  | d :: ds, m, acc => match g d e with
    | none => .stuck
    | some e1 => match c e1 m with
      | .ok true m1 => match b e1 m1 with
        | .ok (.int k) m2 => if acc.length < 4000 then dCompI g c b e ds m2 (acc ++ [k]) else .stuck
        | _ => .stuck
      | .ok false m1 => dCompI g c b e ds m1 acc
      | _ => .stuck
/-- sorted({e for ..}) -/
noncomputable def dSortSC (t : DA) (g : DG) (c : DT) (b : DE) (own : List Nat) : DE := fun e m => (t e m).bind fun ds m1 => (dCompI g c b (wipeE e own) ds m1 []).bind fun ks m2 => if (setI ks).length < 64 then .ok (.lst ((setI ks).map .int)) m2 else .stuck
@[simp ↓] theorem dSortSC_ap (t : DA) (g : DG) (c : DT) (b : DE) (own : List Nat) (e : En) (m : Mu) : dSortSC t g c b own e m = (t e m).bind fun ds m1 => (dCompI g c b (wipeE e own) ds m1 []).bind fun ks m2 => if (setI ks).length < 64 then .ok (.lst ((setI ks).map .int)) m2 else .stuck := rfl
theorem sc_go {σ : L2.St} {S : Wd} {r : En} {m : Mu} {Q : VK} (hi : PDI X tg iter t)
    (hg : ∀ s H C cl fp, PDG (Bk X scope s H C cl fp) tg g sl) (ht : ∀ s H C cl fp, PDTs (Bk X scope s H C cl fp) ifs c) (he : ∀ s H C cl fp, PDE (Bk X scope s H C cl fp) elt b)
    (hsl : ∀ i ∈ sl, i ∈ own.map (·.2))
    (sa : Sta X.K S m) (re : RelE X.K S r σ) (p : PostD X.K S (dSortSC t g c b (own.map (·.2)) r m) Q (fun c d H => Fly X c d σ H)) :
    tScI X.w (WI X tg iter) (bG X scope tg) (bT X scope ifs) (bE X scope elt) (own.map (·.2)) σ S.H fun x H1 => rSortedSet X.w [x] H1 Q := by
  refine hi S r m σ _ sa re ?_
  unfold dSortSC at p
  cases q : t r m with
  | stuck => rw [q] at p; exact p
  | exc C fs m1 => rw [q] at p; exact p
  | ok ds m1 =>
    rw [q] at p
    intro J T st sa1 hJ Dd hD
    have pT : PostD X.K T ((dCompI g c b (wipeE r (own.map (·.2))) ds m1 []).bind fun ks m2 => if (setI ks).length < 64 then .ok (.lst ((setI ks).map .int)) m2 else .stuck) Q (fun c d H => Fly X c d σ H) := Post.step st p
    have reW : RelE X.K T (wipeE r (own.map (·.2))) (wipe σ (own.map (·.2))) := (re.stp st).wipe _
    have f0 := sa1.fresh hD
    refine ⟨fun i n H' => n = ds.length - i ∧ i ≤ ds.length ∧ ∃ (U : Wd) (m' : Mu) (acc : List Int) (Sx : Int → Bool), U.H = H' ∧ Stp T U ∧ Sta X.K U m' ∧ U.H Dd = some (SetO X.w Dd Sx (setI acc).length) ∧ (∀ k, Sx k = true ↔ k ∈ acc) ∧ U.F Dd = none ∧ Dd ∉ U.i ∧
        PostD X.K T ((dCompI g c b (wipeE r (own.map (·.2))) (ds.drop i) m' acc).bind fun ks m2 => if (setI ks).length < 64 then .ok (.lst ((setI ks).map .int)) m2 else .stuck) Q (fun c d H => Fly X c d σ H),
      ⟨ds.length, by simp, Nat.zero_le _, T.put Dd (SetO X.w Dd (fun _ => false) 0), m1, [], fun _ => false, rfl, (Stp.refl T).hid hD, sa1.hid f0.1 f0.2 (by rw [hD]; exact nofun), upd_same, by simp, f0.1, f0.2, pT⟩, ?_⟩
    rintro i n H' ⟨rfl, hi', U, m', acc, Sx, rfl, stU, saU, hU1, hSx, hU2, hU3, pU⟩
    by_cases hlt : i < ds.length
    · refine .inr ⟨((hJ U m' i stU saU).1 _ (List.getElem?_eq_getElem hlt)).1, fun H2 => i + 1 ≤ ds.length ∧ ∃ (U : Wd) (m' : Mu) (acc : List Int) (Sx : Int → Bool), U.H = H2 ∧ Stp T U ∧ Sta X.K U m' ∧ U.H Dd = some (SetO X.w Dd Sx (setI acc).length) ∧ (∀ k, Sx k = true ↔ k ∈ acc) ∧ U.F Dd = none ∧ Dd ∉ U.i ∧
        PostD X.K T ((dCompI g c b (wipeE r (own.map (·.2))) (ds.drop (i + 1)) m' acc).bind fun ks m2 => if (setI ks).length < 64 then .ok (.lst ((setI ks).map .int)) m2 else .stuck) Q (fun c d H => Fly X c d σ H),
        fun H2 h2 => ⟨ds.length - (i + 1), by omega, rfl, h2.1, h2.2⟩, fun x H2 hy => ?_⟩
      obtain ⟨Y, rfl, stY, saY, rdY⟩ := ((hJ U m' i stU saU).1 _ (List.getElem?_eq_getElem hlt)).2 x H2 hy
      obtain ⟨y1, y2, y3⟩ := stY.frame Dd _ (by exact nofun) hU1 hU2 hU3
      rw [List.drop_eq_getElem_cons hlt] at pU
      unfold dCompI at pU
      have stT := stU.trans stY
      cases qg : g ds[i] (wipeE r (own.map (·.2))) with
      | none => rw [qg] at pU; exact (show False from pU).elim
      | some e1 =>
        rw [qg] at pU
        dsimp only at pU
        intro s0 H0 C0 cl0 fp0
        refine hg s0 H0 C0 cl0 fp0 Y (wipeE r (own.map (·.2))) m' (wipe σ (own.map (·.2))) ds[i] x e1 _ saY (reW.stp stT) rdY qg ?_
        intro σ1 re1 bs
        refine ⟨?_, ?_⟩
        · rw [bs _ hsl]
          exact wipe_wipe _ _
        intro s0 H0 C0 cl0 fp0
        cases qc : c e1 m' with
        | stuck => rw [qc] at pU; exact (show False from pU).elim
        | exc C fs m2 => rw [qc] at pU; exact (show False from pU).elim
        | ok k m2 =>
          rw [qc] at pU
          refine ht s0 H0 C0 cl0 fp0 Y e1 m' σ1 _ saY re1 ?_
          rw [qc]
          intro k' Z stZ saZ hk
          cases (show k = k' from hk)
          obtain ⟨z1, z2, z3⟩ := stZ.frame Dd _ (by exact nofun) y1 y2 y3
          cases k with
          | false =>
            exact iteF ⟨hlt, Z, m2, acc, Sx, rfl, stT.trans stZ, saZ, z1, hSx, z2, z3, pU⟩
          | true =>
            refine iteT ?_
            intro s0 H0 C0 cl0 fp0
            dsimp only at pU
            cases qb : b e1 m2 with
            | stuck => rw [qb] at pU; exact (show False from pU).elim
            | exc C fs m3 => rw [qb] at pU; exact (show False from pU).elim
            | ok dx m3 =>
              rw [qb] at pU
              refine he s0 H0 C0 cl0 fp0 Z e1 m2 σ1 _ saZ (re1.stp stZ) ?_
              rw [qb]
              intro vx V1 stV saV rx
              obtain ⟨w1, w2, w3⟩ := stV.frame Dd _ (by exact nofun) z1 z2 z3
              cases dx with
              | int k =>
                dsimp only at pU
                split at pU
                · rename_i hlen
                  cases rx
                  have hs := setI_len acc
                  have nw : (if Sx k = true then (setI acc).length else (setI acc).length + 1) = (setI (acc ++ [k])).length := by
                    rw [setI_snoc]
                    by_cases hk : k ∈ acc
                    · rw [if_pos ((hSx k).mpr hk), if_pos hk]
                    · rw [if_neg (fun z => hk ((hSx k).mp z)), if_neg hk]
                  refine ⟨k, Sx, (setI acc).length, rfl, w1, by unfold scanBound; omega, hlt, V1.put Dd (SetO X.w Dd (fun j => Sx j || decide (j = k)) (if Sx k = true then (setI acc).length else (setI acc).length + 1)), m3, acc ++ [k], fun j => Sx j || decide (j = k), rfl, ((stT.trans stZ).trans stV).hid hD, saV.hid w2 w3 (by rw [w1]; exact nofun), ?_, fun j => ?_, w2, w3, pU⟩
                  · rw [← nw]; exact upd_same
                  · rw [Bool.or_eq_true, decide_eq_true_eq, hSx j, List.mem_append, List.mem_singleton]
                · exact (show False from pU).elim
              | _ => exact (show False from pU).elim
    · have e : i = ds.length := by omega
      subst e
      rw [List.drop_length] at pU
      refine .inl ⟨(hJ U m' _ stU saU).2 (Nat.le_refl _), ?_⟩
      have pU : PostD X.K T (if (setI acc).length < 64 then Res.ok (D.lst ((setI acc).map .int)) m' else .stuck) Q (fun c d H => Fly X c d σ H) := pU
      split at pU
      · rename_i h64
        refine ⟨Dd, Sx, (setI acc).length, rfl, hU1, h64, fun ns l pw mem len hl => ?_⟩
        have en : ns = setI acc := asc_uniq pw (setI_asc acc) fun k => by rw [mem k, hSx k, setI_mem]
        subst en
        have stN := Stp.new saU (o := .lst ((setI acc).map V.int)) hl
        exact pU (.ref l) (U.new l (.lst ((setI acc).map V.int))) (stU.trans stN) (saU.new hl) (.lst (.inl (.inl upd_same)) (reps_intsM _))
      · exact (show False from pU).elim
theorem pd_sortSC (hi : PDI X tg iter t) (hN : X.N.Nodup) (ok : BlkOk X.N X.env.scope scope own)
    (hg : ∀ s H C cl fp, PDG (Bk X scope s H C cl fp) tg g sl) (ht : ∀ s H C cl fp, PDTs (Bk X scope s H C cl fp) ifs c) (he : ∀ s H C cl fp, PDE (Bk X scope s H C cl fp) elt b)
    (hc : X.calm = true) {x : Str} (hm : X.mg x = none) (hgl : Gl X x := by rfl) (hv : bootBuiltins x = some (.builtin "sorted") := by rfl) (hn : x ≠ "__name__" := by decide) (hdb : (x == ("__debug__" : Str)) = false := by decide)
    (hsl : ∀ i ∈ sl, i ∈ own.map (·.2) := by decide) (hs : ∀ x, foldedSetIterable iter X.env x = pure x := by intro _; rfl) :
    PDE X (.Call (.Name x p) [.SetComp elt [⟨tg, iter, ifs, 0⟩] scope pos] [] cpos) (dSortSC t g c b (own.map (·.2))) :=
  pd_of (pe_callB (cr_sortedSet hc) hgl hm hv (pa_cons (pe_scI (g := bG X scope tg) (tt := bT X scope ifs) (te := bE X scope elt) hc hN (mxI X tg iter) ok (fun s H C cl fp => ⟨fun pins s1 σ H1 v u Q I r h => h s H C cl fp pins s1 u I r⟩) (fun s H C cl fp => ⟨fun pins s1 σ H1 Q I h => h s H C cl fp pins s1 I⟩) (fun s H C cl fp => ⟨fun pins s1 σ H1 Q I h => h s H C cl fp pins s1 I⟩) hs) pa_nil) hn hdb)
    fun S r m σ Q sa re q => sc_go hi hg ht he hsl sa re q
end
end DL

namespace DL
open PySem PySem.Spec L2
variable [LamTab]
section
variable {rows : List (Kl × DFn × List Tg)} {m : Mu} {n : Nat}
theorem insOf_seqL {x : D} {xs : List D} (h : seqL m x = some xs) : insOf m x = none := by
  unfold seqL at h
  split at h
  · rfl
  · split at h
    · rename_i e
      simp only [insOf, e]
    · cases h
  · cases h
theorem eqX_seq {x y : D} {xs ys : List D} (hx : seqL m x = some xs) (hy : seqL m y = some ys) : eqX rows m (n + 1) x y = if xs.length = ys.length then eqXs (eqI (eqX rows m n)) xs ys else some false := by
  rw [eqX.eq_def]
  simp only [insOf_seqL hx, hx, hy]
theorem seqL_at {k : Nat} {ds : List D} (h : m[k]? = some (.lst ds)) : seqL m (.loc k) = some ds := by
  simp only [seqL, h]
theorem eqX_nil {x : D} {xs : List D} (hx : seqL m x = some xs) : eqX rows m (n + 1) x (.lst []) = some (decide (xs = [])) := by
  rw [eqX_seq hx (ys := []) rfl]
  cases xs with
  | nil => rfl
  | cons a t => simp
theorem eqX_smap {α : Type} [DecidableEq α] {F : α → D} {as bs : List α} {x y : D} (hx : seqL m x = some (as.map F)) (hy : seqL m y = some (bs.map F)) (hi : ∀ a ∈ as, ∀ b ∈ bs, F a = F b → a = b) (hs : ∀ a, solid (F a) = true) (h : ∀ a ∈ as, ∀ b ∈ bs, eqX rows m n (F a) (F b) = some (decide (a = b))) :
    eqX rows m (n + 1) x y = some (decide (as = bs)) := by
  rw [eqX_seq hx hy]
  by_cases hl : as.length = bs.length
  · rw [if_pos (by simpa using hl), eqXs_map (fun a ha b hb => eqI_map (hi a ha b hb) (hs a) (hs b) (h a ha b hb)) hl]
  · rw [if_neg (by simpa using hl)]
    have : ¬ as = bs := fun e => hl (by rw [e])
    simp [this]
theorem gEqX_nil {neg : Bool} {x : D} {xs : List D} (hx : seqL m x = some xs) : gEqX neg rows 5 x (.lst []) m = .ok (.bl (neg ^^ decide (xs = []))) m := gEqX_of (eqX_nil hx)
theorem gNeX_nil {x : D} {xs : List D} (hx : seqL m x = some xs) : gNeX rows 5 x (.lst []) m = .ok (.bl (!decide (xs = []))) m := gNeX_of (insOf_seqL hx) (eqX_nil hx)
end
end DL
namespace DL
open PySem PySem.Spec L2
variable [LamTab]
section
variable {m : Mu} {g : DG} {c : DT} {b : DE} {e : En}
/-- a comprehension over data that are told by items -/
theorem compL_of {α : Type} {F f : α → D} {p : α → Bool} : ∀ (xs : List α) (acc : List D), (∀ x ∈ xs, ∃ e1, g (F x) e = some e1 ∧ c e1 m = .ok (p x) m ∧ (p x = true → b e1 m = .ok (f x) m)) → acc.length + xs.length ≤ sizeLine →
    dCompL g c b e (xs.map F) m acc = .ok (acc ++ (xs.filter p).map f) m
  | [], acc, _, _ => by simp
  | x :: xs, acc, h, hl => by
    obtain ⟨e1, h1, h2, h3⟩ := h x (by simp)
    rw [List.map_cons]
    unfold dCompL
    rw [h1]
    simp only [h2]
    cases hp : p x with
    | true =>
      have ih := compL_of xs (acc ++ [f x]) (fun y hy => h y (by simp [hy])) (by simp at hl ⊢; omega)
      simp only [h3 hp]
      rw [if_pos (by simp at hl; omega), ih]
      simp [hp]
    | false =>
      have ih := compL_of xs acc (fun y hy => h y (by simp [hy])) (by simp at hl ⊢; omega)
      simp only []
      rw [ih]
      simp [hp]
theorem compG_of {α : Type} {gd : Mu → Prop} (hg : gd m) {F f : α → D} {p : α → Bool} : ∀ (xs : List α) (acc : List D), (∀ x ∈ xs, ∃ e1, g (F x) e = some e1 ∧ c e1 m = .ok (p x) m ∧ (p x = true → b e1 m = .ok (f x) m)) → acc.length + xs.length ≤ sizeLine →
    dCompG gd g c b e (xs.map F) m acc = .ok (acc ++ (xs.filter p).map f) m
  | [], acc, _, _ => by unfold dCompG; simp [hg]
  | x :: xs, acc, h, hl => by
    obtain ⟨e1, h1, h2, h3⟩ := h x (by simp)
    rw [List.map_cons]
    unfold dCompG
    rw [if_pos hg]
    simp only [h1, h2]
    cases hp : p x with
    | true =>
      have ih := compG_of hg xs (acc ++ [f x]) (fun y hy => h y (by simp [hy])) (by simp at hl ⊢; omega)
      simp only [h3 hp]
      rw [if_pos (by simp at hl; omega), ih]
      simp [hp]
    | false =>
      have ih := compG_of hg xs acc (fun y hy => h y (by simp [hy])) (by simp at hl ⊢; omega)
      simp only []
      rw [ih]
      simp [hp]
theorem compS_of {α : Type} {fin : List D → Mu → Res D} {n : Nat} {xs : List α} {F f : α → D} {p : α → Bool} (hn : m[n]? = some (.lst (xs.map F))) (h : ∀ x ∈ xs, ∃ e1, g (F x) e = some e1 ∧ c e1 m = .ok (p x) m ∧ (p x = true → b e1 m = .ok (f x) m)) (hl : xs.length ≤ sizeLine) :
    comp1 fin g c b e (.loc n) m = fin ((xs.filter p).map f) m := by
  unfold comp1
  simp only [hn]
  rw [compG_of hn xs [] h (by simpa using hl)]
  simp
end
end DL
namespace DL
variable [LamTab]
theorem dLoop_step {g : DG} {b : DS} {d : D} {ds : List D} {e e1 e2 : En} {m m2 : Mu} (h1 : g d e = some e1) (h2 : b e1 m = .nx e2 m2) : dLoop g b (d :: ds) e m = dLoop g b ds e2 m2 := by
  rw [dLoop.eq_def]
  simp only [h1, h2]
end DL
namespace DL
open PySem PySem.Spec L2
variable [LamTab]
theorem dNeg_of {C : Addr} {G : DFn} {t : DE} {e : En} {m m1 : Mu} {d : D} {ns : List Str} {ds : List D} (h : t e m = .ok d m1) (hi : insOf m1 d = some (C, ns, ds)) : dNeg C G t e m = G [d] m1 := by
  unfold dNeg
  rw [h]
  cases d with
  | int i => cases hi
  | _ => simp only [Res.bind_ok, hi, if_true]
end DL

namespace DL
open PySem PySem.Spec PyProof.Rows L2
variable [LamTab]
theorem DefK.funD {K : PySem.W.Frag} {d : DefK} (e : fnK K (d.ad.at_ K) = d.seen) (c : d.okB K = true) : ∃ fd, FunD K d.name d.qual d.params d.body d.scope d.dfl d.kws (d.ad.at_ K) fd := by
  obtain ⟨kp, c1⟩ := He.ba c
  unfold fnK at e
  cases q : K.lookup (d.ad.at_ K) with
  | none => rw [q] at c1; cases c1
  | some o =>
    obtain ⟨oc, od, dt, osl⟩ := o
    rw [q] at c1 e
    cases dt with
    | func g =>
      obtain ⟨m1, m2, m3, m4, m5, m6, m7, m8, m9, m10, m11, m12, m13, m14, m15⟩ := g
      have z : (some (m1, m2, m3, m4, m5, m6, m7, m15) : FnK) = some (d.name, d.qual, d.params, .stmts d.body, d.scope, mainGlobals, [], builtinsNs) := e
      simp only [Option.some.injEq, Prod.mk.injEq] at z
      obtain ⟨a1, a2, a3, a4, a5, a6, a7, a8⟩ := z
      subst a1 a2 a3 a4 a5 a6 a7 a8
      obtain ⟨k1, k2⟩ := He.ba (show (PySem.W.codeIn K m13 d.qual && (He.dflB K m8 d.dfl && He.kwdB K m9 d.kws)) = true from c1)
      obtain ⟨k2, k3⟩ := He.ba k2
      exact ⟨_, ⟨oc, od, m8, m9, m10, m11, m12, m13, m14, osl, rfl, q, k1, He.dflB_ok k2, He.kwdB_ok k3⟩, kp⟩
    | _ => cases c1
section
variable {fs : List (PySem.W.Frag → Bool)} {ds : List DefK} {K : PySem.W.Frag}
theorem SaysK.fact (c : SaysK fs ds K) (i : Nat) {f : PySem.W.Frag → Bool} (h : fs[i]? = some f := by rfl) : f K = true :=
  List.all_eq_true.mp (He.ba (show ((fs.all fun f => f K) && ds.all fun d => d.okB K) = true from congrArg Prod.fst c)).1 f (List.mem_of_getElem? h)
theorem SaysK.df (c : SaysK fs ds K) (i : Nat) {d : DefK} (h : ds[i]? = some d := by rfl) : ∃ fd, FunD K d.name d.qual d.params d.body d.scope d.dfl d.kws (d.ad.at_ K) fd := by
  have c2 := (He.ba (show ((fs.all fun f => f K) && ds.all fun d => d.okB K) = true from congrArg Prod.fst c)).2
  have e : (ds.map fun d => fnK K (d.ad.at_ K))[i]? = (ds.map DefK.seen)[i]? := congrArg (fun z : AlK => z.2[i]?) c
  rw [List.getElem?_map, List.getElem?_map, h] at e
  exact DefK.funD (Option.some.inj e) (List.all_eq_true.mp c2 d (List.mem_of_getElem? h))
end
/-- the law's end over a head that is read by names -/
theorem walk_ofK {l : PySem.W.OpenLaw} {n k : Nat} {q : Program} {loose : List Str} {XP : (Str → Option Value) → Heap → Prop} {YP : World → Heap → Prop} {d : DefRec} {x : Str}
    (hn : l.most = some n) (hn2 : n ≤ sizeLine) (hdf : d.params.defaults = []) (hr : Room k callerA)
    (F : ∀ (w : World) (mg : Str → Option Value) (fa : Addr) (h : Heap), YP w h → h.Ns mainGlobals mg → mg d.name = some (.ref fa) →
      ∃ (K : PySem.W.Frag) (fd : FuncData) (sp : Sp), K.In h ∧ (∀ (s : Shared) (u : Value), BindsTo s fd ⟨[u], []⟩ [(x, u)]) ∧
        (∀ (H : Hp) (a : Addr) (ns : List Int), ns.length ≤ n → SqL K H a (ns.map V.int) → sp [.ref a] H (fun v _ => v = .bl true) fun _ _ _ => False) ∧
        ∀ base : Heap, K.In base → base.Ns mainGlobals mg → FnOk l.prog w K mg base (L2.CX l.prog w) k fa fd [x] sp) :
    PySem.W.WalkO q loose XP YP l.row.toRowW d [] (fun f vs => PySem.call f vs) := by
  refine Att.attach_call hn hdf fun w s0 s1 mg mb fa o pm cd doc a vs ns G Y ho hd hcd hmg hobj hints hlen hg => ?_
  obtain ⟨K, fd, sp, KX, hb, hsp, hF⟩ := F w mg fa _ Y G.T.g hmg
  refine law_call KX G.T.g G.T.b G.T.builtins G.T.nolimit hg hobj hints (Nat.le_trans hlen hn2) hr hF hb (fun H _ hS => hsp H a ns hlen hS) fun H e s' z => nofly z
end DL

set_option maxHeartbeats 4000000
/-! set(xs), xs a list of whole numbers, and its sorted list -/
namespace L2
open PySem PySem.Spec PyProof.Rows
section
variable {P : Program} {w : World} {A : Around} {E : Value → Shared → Prop} {s : Shared}
set_option maxRecDepth 100000 in
set_option maxHeartbeats 3200000 in
theorem call_setI {l : Addr} {items : Array Value} (ns : List Int) {Q : Value → Shared → Prop} (hh : A.handled = none) (hl : s.heap.IsList l items) (hit : IntsAre items.toList ns) (hb : ns.length + 1 < scanBound)
    (h : ∀ (h' : Heap) (tk c : Nat), SetR w h' s.heap.objs.size (fun j => decide (j ∈ ns)) c → c ≤ ns.length → (∀ b o, s.heap.get? b = some o → h'.get? b = some o) → Q (.ref s.heap.objs.size) { s with heap := h', toks := tk }) :
    wpAny (model P w) A (call (.type "set") [.ref l]) Q E s := by
  have hisz : items.size = ns.length := by
    have q := IntsAre.length hit
    rw [Array.length_toList] at q
    exact q
  obtain ⟨c, tl, hmro⟩ := F.called_set.mro
  have hmade := F.called_set.made
  have hsub := F.called_set.sub
  refine wpAny_call (codeAny_of_tree ?_)
  show wpAny _ _ (callAny (.type "set") _) _ _ _
  refine wpAny_pure ⟨Code.quiet_builtin _ (by decide +kernel), codeAny_builtin F.entry_type_call ?_⟩
  rw [Around.under_plain (weight_type_call_type "set" [.ref l] []) rfl]
  have h1 := F.called_set.notType
  have h2 := F.called_set.canCreate
  have hct := F.typeCall_set_1 (.ref l)
  repeat (any_goals (first | assumption | wp_step))

  refine codeAny_mono (code_set_led1 (.ref l) (E := E) (Q₁ := fun obj s₁ => obj = .ref s.heap.objs.size ∧ s₁ = { s with heap := s.heap.push { cls := .type "set", dict := none, data := .set #[] 0 (.fresh 0 0 (!w.params.followText "set-order")) } }) ⟨rfl, rfl⟩) fun r s₁ hr => ?_
  cases r with
  | error e => exact hr
  | ok fl =>
    cases fl with
    | ret obj =>
      obtain ⟨rfl, rfl⟩ := hr
      have hS : (s.heap.push { cls := .type "set", dict := none, data := .set #[] 0 (.fresh 0 0 (!w.params.followText "set-order")) }).get? s.heap.objs.size = some { cls := .type "set", dict := none, data := .set #[] 0 (.fresh 0 0 (!w.params.followText "set-order")) } := Heap.get?_push_size _ rfl
      have hT : Shared.TypeIs { s with heap := s.heap.push { cls := .type "set", dict := none, data := .set #[] 0 (.fresh 0 0 (!w.params.followText "set-order")) } } (.ref s.heap.objs.size) "set" := ⟨_, hS, rfl⟩
      have hli := F.called_set.init.lookup
      have hbi := F.called_set.init.bind (.ref s.heap.objs.size)
      repeat (any_goals (first | assumption | wp_step))

      refine codeAny_mono (codeAny_call_builtin (R := wants (fun r s₂ => r = .none ∧ ∃ h' tk c, s₂ = { s with heap := h', toks := tk } ∧ SetR w h' s.heap.objs.size (fun j => decide (j ∈ ns)) c ∧ c ≤ ns.length ∧
          (∀ b o, s.heap.get? b = some o → h'.get? b = some o)) E) F.called_set.init.plain F.entry_set_init (check_set_init_1 hT ?_)) fun r₂ s₂ hr₂ => ?_
      · obtain ⟨ol, hol, hcl, nl, hdl⟩ := hl
        obtain ⟨ocls, odict, odata, oslots⟩ := ol
        simp only at hcl hdl
        subst hcl; subst hdl
        have hol' : (s.heap.push { cls := .type "set", dict := none, data := .set #[] 0 (.fresh 0 0 (!w.params.followText "set-order")) }).get? l = some { cls := .type "list", dict := odict, data := .seq items nl, slots := oslots } := Heap.get?_push_of_some _ hol
        have hsls := F.sub_list_set
        have hslf := F.sub_list_frozenset
        have hne : (Value.type "list" == Value.type "dict") = false := by decide
        have hl1 : (s.heap.push { cls := .type "set", dict := none, data := .set #[] 0 (.fresh 0 0 (!w.params.followText "set-order")) }).IsList l items := ⟨_, hol', rfl, nl, rfl⟩
        unfold Builtin.«set.__init__» noKeywords Builtin.Frozenset.updateFrom
        generalize hPI : pyIter = PI
        wp_walk
        subst hPI

        refine wpAny_pyIter_list hl1 ?_
        refine wpAny_bind (wpAny_runValue ?_)
        have hlS : l < s.heap.objs.size := Heap.lt_size hol
        have hh3 : A.in1.in1.in1.handled = none := by simp [hh]
        have hz1 : (s.heap.push { cls := .type "set", dict := none, data := .set #[] 0 (.fresh 0 0 (!w.params.followText "set-order")) }).objs.size = s.heap.objs.size + 1 := Heap.size_push ..
        have hneI : l ≠ (s.heap.push { cls := .type "set", dict := none, data := .set #[] 0 (.fresh 0 0 (!w.params.followText "set-order")) }).objs.size := by
          rw [Heap.size_push]; exact Nat.ne_of_lt (Nat.lt_succ_of_lt hlS)
        have hSf : s.heap.objs.size ∉ [(s.heap.push { cls := .type "set", dict := none, data := .set #[] 0 (.fresh 0 0 (!w.params.followText "set-order")) }).objs.size, l] := by
          rw [Heap.size_push]; simp only [List.mem_cons, List.mem_singleton, List.not_mem_nil, or_false, not_or]
          exact ⟨Nat.ne_of_lt (Nat.lt_succ_self _), Nat.ne_of_gt hlS⟩
        have hval : ∀ (i : Nat) (v : Value), items[i]? = some v → ∃ k t, ns[i]? = some k ∧ v = .int k t := fun i v hv => by
          have hi : i < ns.length := by rw [← hisz]; exact (Array.getElem?_eq_some_iff.mp hv).1
          obtain ⟨t, e⟩ := PyProof.Rows.IntsAre.int_at hit i v (by rw [Array.getElem?_toList]; exact hv)
          refine ⟨ns[i], t, List.getElem?_eq_getElem hi, ?_⟩
          rw [e, List.getD_eq_getElem?_getD, List.getElem?_eq_getElem hi] <;> rfl
        refine set_update_ints ((Walks.list hh3 _ l hneI items).toS) s.heap.objs.size
          hSf ns hisz hb hval (items.size - 0) 0 _ (by omega) (Nat.zero_le _)
          ⟨⟨_, Heap.get?_push_size _ rfl, rfl, rfl⟩, (hl1.push _)⟩ ?hS0 ?hR
        case hS0 =>
          have hget : ((s.heap.push { cls := .type "set", dict := none, data := .set #[] 0 (.fresh 0 0 (!w.params.followText "set-order")) }).push { cls := .type "list_iterator", data := .fields #[.ref l, .int 0 0] }).get? s.heap.objs.size
              = some { cls := .type "set", dict := none, data := .set #[] 0 (.fresh 0 0 (!w.params.followText "set-order")) } := Heap.get?_push_of_some _ hS
          exact ⟨0, Nat.le_refl 0, setR_new_at hget⟩
        case hR =>
          intro s' c' hm hc' hS'
          obtain ⟨h', g2, d', tk', os'⟩ := s'
          have eg : g2 = s.gens := hm.gens
          have ed : d' = s.drawn := hm.drawn
          have eo : os' = s.os := hm.os
          subst eg; subst ed; subst eo
          show wpAny _ _ _ _ _ _
          refine wpAny_pure ?_
          show wpAny _ _ (ret Value.none) _ _ _
          rw [hisz] at hc'
          refine wpAny_pure ⟨rfl, h', tk', c', rfl, hS', hc', fun b o e => ?_⟩
          have hb0 : b < s.heap.objs.size := Heap.lt_size e
          have hb1 : b ≠ s.heap.objs.size := Nat.ne_of_lt hb0
          have hb2 : b ≠ (s.heap.push { cls := .type "set", dict := none, data := .set #[] 0 (.fresh 0 0 (!w.params.followText "set-order")) }).objs.size := by
            rw [Heap.size_push]; exact Nat.ne_of_lt (Nat.lt_succ_of_lt hb0)
          exact hm.heap b o (by simp only [List.mem_cons, List.mem_singleton, List.not_mem_nil, or_false, not_or]; exact ⟨hb1, hb2⟩) (Heap.get?_push_of_some _ (Heap.get?_push_of_some _ e))

      · cases r₂ with
        | error e => exact hr₂
        | ok fl₂ =>
          cases fl₂ with
          | ret r =>
            obtain ⟨rfl, h', tk, c', rfl, hS', hc', hk'⟩ := hr₂
            repeat (any_goals (first | assumption | wp_step))
            exact h _ _ _ hS' hc' hk'
          | _ => exact hr₂.elim
    | _ => exact hr.elim
end
/-- sorted(set(a)), whole numbers -/
def tSortSet (K : PySem.W.Frag) (ta : TE) : TE := fun σ H Q => ta σ H fun x H1 => ∃ (l : Addr) (ns : List Int), x = .ref l ∧ SqL K H1 l (ns.map V.int) ∧ ns.length < 64 ∧
  ∀ (ks : List Int) (p : Addr), ks.Pairwise (· < ·) → (∀ k : Int, k ∈ ks ↔ k ∈ ns) → H1 p = none → Q (.ref p) (upd H1 p (.lst (ks.map V.int)))
theorem pe_sortSet {X : Cx} {a : Expr} {ta : TE} {p p2 q pos : Pos} (hg : Gl X "sorted") (hm : X.mg "sorted" = none) (hg2 : Gl X "set") (hm2 : X.mg "set" = none) (ha : PE X a ta) (hc : X.calm = true)
    (na : starEach [a] X.env = (false, eval a X.env) :: starEach [] X.env := by rfl) : PE X (.Call (.Name "sorted" p) [.Call (.Name "set" p2) [a] [] q] [] pos) (tSortSet X.K ta) := by
  refine ⟨fun pins s σ H Q I h => ?_⟩
  refine Call_ (ld_blt I hg hm (by rfl) ?_)
  refine PyProof.Rows.callWith_builtin1 (PyProof.Rows.args_cons ?_ rfl) rfl rfl
  refine Call_ (ld_blt I hg2 hm2 PyProof.Rows.boot_set ?_)
  refine PyProof.Rows.callWith_type1 (PyProof.Rows.args_cons (thn (ha.run pins s σ H _ I h) fun v s1 ⟨x, H1, I1, r1, q1⟩ => PyProof.Rows.args_nil ?_) na) na rfl
  obtain ⟨l, ns, rfl, hq, h64, q1⟩ := q1
  cases r1
  obtain ⟨its, r, pl, hz⟩ := I1.list hq
  refine call_setI ns (I1.ok.hd hc) pl.isList (by simpa using r.ints) (by unfold scanBound; omega) fun h' tk c hS hcn hk => ?_
  refine PyProof.Rows.args_nil ?_
  have I2 : Inv X pins σ H1 { s1 with heap := h', toks := tk } := I1.kept fun b o e => hk b o e
  refine sorted_set hS (I1.ok.hd hc) (by omega) fun s' p out k ks kp g o hp hgt hi hs hmem hl => ?_
  have hlen : (ks.map V.int).length ≤ sizeLine := by rw [List.length_map, hl, sizeLine_eq]; omega
  have hn : H1 p = none := I2.hok.fresh hp
  have J : Inv X pins σ (upd H1 p (.lst (ks.map V.int))) { s1 with heap := s'.heap, gens := s'.gens, drawn := s'.drawn, toks := s'.toks } :=
    (I2.call (ch := []) (Un.laid kp hp hn) (I2.hok.laid kp hp ⟨hlen, out.toList, k, vals_of_ints hi, hgt⟩) (by rw [g]; exact I2.bare) (fun _ z => nomatch z) : Inv X pins σ (upd H1 p (.lst (ks.map V.int))) { ({ s1 with heap := h', toks := tk } : Shared) with heap := s'.heap, gens := s'.gens, drawn := s'.drawn, toks := s'.toks })
  have e : s' = { s1 with heap := s'.heap, gens := s'.gens, drawn := s'.drawn, toks := s'.toks } := by
    cases s'
    cases s1
    cases o
    rfl
  rw [e]
  exact ⟨.ref p, _, J, rfl, q1 ks p hs (fun j => by rw [hmem j, decide_eq_true_eq]) hn⟩
end L2
namespace DL
open PySem PySem.Spec PyProof.Rows L2
variable [LamTab]
/-- sorted(set(xs)) -/
noncomputable def dSortSet (t : DE) : DE := fun e m => (t e m).bind fun d m1 => match (seqL m1 d).bind toIs with
  | some ns => if ns.length < 64 then .ok (.lst ((setI ns).map .int)) m1 else .stuck
  | _ => .stuck
@[simp ↓] theorem dSortSet_ap (t : DE) (e : En) (m : Mu) : dSortSet t e m = (t e m).bind fun d m1 => match (seqL m1 d).bind toIs with
  | some ns => if ns.length < 64 then .ok (.lst ((setI ns).map .int)) m1 else .stuck
  | _ => .stuck := rfl
section
variable {X : Cx}
theorem pd_sortSet {a : Expr} {ta : DE} {p p2 q pos : Pos} (ha : PDE X a ta) (hc : X.calm = true) (hm : X.mg "sorted" = none) (hm2 : X.mg "set" = none) (hg : Gl X "sorted" := by rfl) (hg2 : Gl X "set" := by rfl)
    (na : starEach [a] X.env = (false, eval a X.env) :: starEach [] X.env := by rfl) : PDE X (.Call (.Name "sorted" p) [.Call (.Name "set" p2) [a] [] q] [] pos) (dSortSet ta) :=
  pd_of (pe_sortSet hg hm hg2 hm2 (mxE X a) hc na) fun S r m σ Q sa re z => by
    refine ha S r m σ _ sa re (Post.bindI z fun d m1 v T st sa1 rd z1 => ?_)
    cases hs : (seqL m1 d).bind toIs with
    | none => rw [hs] at z1; exact (show False from z1).elim
    | some ns =>
      rw [hs] at z1
      dsimp only at z1
      split at z1
      · rename_i h64
        obtain ⟨ds, e1, e2⟩ := Option.bind_eq_some_iff.mp hs
        obtain ⟨l, xs, rfl, h1, h2⟩ := seqL_ok sa1 rd e1
        refine ⟨l, ns, rfl, ?_, h64, fun ks p pw mem hp => ?_⟩
        · rw [← toIs_ok h2 e2]; exact h1
        · have en : ks = setI ns := asc_uniq pw (setI_asc ns) fun k => by rw [mem k, setI_mem]
          subst en
          have stN := Stp.new sa1 (o := .lst ((setI ns).map V.int)) hp
          exact z1 (.ref p) (T.new p (.lst ((setI ns).map V.int))) stN (sa1.new hp) (.lst (.inl (.inl upd_same)) (reps_intsM _))
      · exact z1.elim
end
end DL

set_option maxHeartbeats 4000000
/-! xs.count(k), whole numbers -/
namespace DL
open PySem PySem.Spec PyProof.Rows L2
variable [LamTab]
/-- xs.count(k), whole numbers -/
def fCount : D → List D → Mu → Res D := fun d ds m => match ds with
  | [.int k] => match (seqL m d).bind toIs with
    | some ns => .ok (.int (ns.count k : Nat)) m
    | none => .stuck
  | _ => .stuck
@[simp] theorem fCount_ap (d : D) (k : Int) (m : Mu) : fCount d [.int k] m = match (seqL m d).bind toIs with
    | some ns => .ok (.int (ns.count k : Nat)) m
    | none => .stuck := rfl
theorem ok_count {K : PySem.W.Frag} : BmOk K fCount (rCntI K) := by
  intro S m d ds v vs Q W sa rd rds p
  unfold fCount at p
  split at p
  · rename_i k
    obtain ⟨vy, rfl, ry⟩ := reps1 rds
    cases ry
    cases q : seqL m d with
    | none => rw [q] at p; exact (show False from p).elim
    | some es =>
      rw [q] at p
      cases q2 : toIs es with
      | none => rw [show (some es).bind toIs = toIs es from rfl, q2] at p; exact (show False from p).elim
      | some bs =>
        rw [show (some es).bind toIs = toIs es from rfl, q2] at p
        obtain ⟨ad, xs, rfl, h1, r1⟩ := seqL_ok sa rd q
        have := toIs_ok r1 q2
        subst this
        exact ⟨ad, bs, k, rfl, rfl, h1, Post.ok p (Stp.refl S) sa (.int _)⟩
  · exact p.elim
variable {X : Cx} {o e : Expr} {to : DE} {t : DA} {apos cpos : Pos}
theorem pd_count (ho : PDE X o to) (ha : PDA X [e] t) (hbase : attributeBase o "count" X.env (eval o X.env) = eval o X.env := by rfl)
    (hfew : ((backTo cpos (starEach [e] X.env)).all (fun x => !x.1) && (backToKw cpos (keywordEach [] X.env)).all (fun x => x.1.isSome)
      && decide ([e].length + ([] : List Keyword).length + (if ([] : List Keyword).isEmpty then 0 else 1) < 30)) = true := by rfl)
    (hline : (apos.endLine == cpos.line) = true := by rfl) (hs : starEach [e] X.env = (false, eval e X.env) :: starEach [] X.env := by rfl) (hplain : (backTo cpos (starEach [] X.env)).any (·.1) = false := by rfl) :
    PDE X (.Call (.Attribute o "count" apos) [e] [] cpos) (dBmL fCount to t) := pd_bmL PySem.F.slot_list_count PySem.F.type_list_count mt_lcount ok_count ho ha hbase hfew hline hs hplain
end DL

namespace W
open PySem DL
instance : LamTab := ⟨fun _ => ⟨Str.empty, ⟨[], [], none, [], [], none, []⟩, .Constant .none 0 ⟨0, 0, 0, 0⟩, default, [], [], []⟩, fun _ => []⟩

/-- where the classes stand -/
structure Cs where
  cRatio : Addr

/-- different classes stand at different places -/
def Cs.Ok (c : Cs) : Prop := True

def nsRatio : List Str := ["own_top", "own_bottom"]
abbrev Cs.kRatio (c : Cs) : Kl := ⟨c.cRatio, nsRatio⟩

def ans_Ratio__Ratio (c : Cs) : Ans := ⟨[], [(c.cRatio, true)]⟩

def ans_bool (c : Cs) : Ans := ⟨["bool"], []⟩

def ans_int (c : Cs) : Ans := ⟨["int", "bool"], []⟩

def ans_list (c : Cs) : Ans := ⟨["list"], []⟩

def ans_list_tuple (c : Cs) : Ans := ⟨["list", "tuple"], []⟩

def ans_str (c : Cs) : Ans := ⟨["str"], []⟩

def ans_tuple (c : Cs) : Ans := ⟨["tuple"], []⟩

/-- _law_begin (0 _law_script) -/
noncomputable def F_w_begin (c : Cs) : DFn := dFn 1 (dRet (dLoc (dCons (dFun gList (dCons (dSl (dVar 0) dNoPart (dPart (dC (.int 63)))) dNil)) (dCons (dC (.int 0)) (dCons (dC (.int 0)) (dCons (dBin gAdd (dC (.int 100050)) (dBin gMul (dC (.int 17)) (dFun gLen (dCons (dSl (dVar 0) dNoPart (dPart (dC (.int 63)))) dNil)))) dNil))))))

/-- _law_take (0 _law_bag, 1 _law_many, 2 _law_cell, 3 _law_digit, 4 _law_old) -/
noncomputable def F_w_take (c : Cs) : DFn := dFn 5 (dSeq (dIfS (dAndT (dTst (dBin gEq (dBin gIx (dVar 0) (dC (.int 2))) (dC (.int 0)))) (dTst (dBin gLt (dBin gIx (dVar 0) (dC (.int 1))) (dFun gLen (dCons (dBin gIx (dVar 0) (dC (.int 0))) dNil))))) (dSeq (dSet 2 (dFun gAbs (dCons (dBin gIx (dBin gIx (dVar 0) (dC (.int 0))) (dBin gIx (dVar 0) (dC (.int 1)))) dNil))) (dSeq (dPutI (dBin gAdd (dBin gIx (dVar 0) (dC (.int 1))) (dC (.int 1))) (dVar 0) (dC (.int 1))) (dIfS (dTst (dBin gGe (dVar 2) (dBin gPow (dC (.int 10)) (dC (.int 18))))) (dPutI (dVar 2) (dVar 0) (dC (.int 2))) (dPutI (dBin gMod (dFun gInt (dCons (dBin gAdd (dBin gAdd (dBin gMul (dBin gIx (dVar 0) (dC (.int 3))) (dC (.int 36919))) (dBin gMul (dBin gMod (dFun gInt (dCons (dVar 2) dNil)) (dC (.int 2147483563))) (dC (.int 7919)))) (dBin gIx (dVar 0) (dC (.int 1)))) dNil)) (dC (.int 2147483629))) (dVar 0) (dC (.int 3)))))) dSkip) (dSeq (dIfS (dTst (dBin gGt (dBin gIx (dVar 0) (dC (.int 2))) (dC (.int 0)))) (dSeq (dSet 3 (dBin gMod (dFun gInt (dCons (dBin gIx (dVar 0) (dC (.int 2))) dNil)) (dVar 1))) (dSeq (dPutI (dBin gDiv (dBin gIx (dVar 0) (dC (.int 2))) (dVar 1)) (dVar 0) (dC (.int 2))) (dRet (dVar 3)))) dSkip) (dSeq (dSet 4 (dBin gIx (dVar 0) (dC (.int 3)))) (dSeq (dPutI (dBin gMod (dFun gInt (dCons (dBin gAdd (dBin gAdd (dBin gMul (dVar 4) (dVar 4)) (dBin gMul (dVar 4) (dC (.int 29423)))) (dC (.int 90001))) dNil)) (dC (.int 2147483647))) (dVar 0) (dC (.int 3))) (dRet (dBin gMod (dFun gInt (dCons (dBin gAdd (dBin gDiv (dBin gIx (dVar 0) (dC (.int 3))) (dC (.int 53))) (dBin gMul (dBin gMod (dFun gInt (dCons (dBin gIx (dVar 0) (dC (.int 3))) dNil)) (dC (.int 7907))) (dC (.int 179)))) dNil)) (dVar 1)))))))

noncomputable def C_w_gap_rows_1 (c : Cs) : DE := (dBin gMod (dFun gInt (dCons (dBin gMul (dVar 1) (dVar 4)) dNil)) (dVar 2))
theorem C_w_gap_rows_1_ap (c : Cs) (e : En) (m : Mu) : C_w_gap_rows_1 c e m = (dBin gMod (dFun gInt (dCons (dBin gMul (dVar 1) (dVar 4)) dNil)) (dVar 2)) e m := rfl

noncomputable def C_w_gap_rows_2 (c : Cs) : DE := (dFun gInt (dCons (dBin gSub (dBin gIx (dVar 3) (dBin gAdd (dVar 4) (dC (.int 1)))) (dBin gIx (dVar 3) (dVar 4))) dNil))
theorem C_w_gap_rows_2_ap (c : Cs) (e : En) (m : Mu) : C_w_gap_rows_2 c e m = (dFun gInt (dCons (dBin gSub (dBin gIx (dVar 3) (dBin gAdd (dVar 4) (dC (.int 1)))) (dBin gIx (dVar 3) (dVar 4))) dNil)) e m := rfl

noncomputable def C_w_gap_rows_3 (c : Cs) : DE := (dTup (dCons (dVar 6) (dCons (dBmL fCount (dVar 5) (dCons (dVar 6) dNil)) dNil)))
theorem C_w_gap_rows_3_ap (c : Cs) (e : En) (m : Mu) : C_w_gap_rows_3 c e m = (dTup (dCons (dVar 6) (dCons (dBmL fCount (dVar 5) (dCons (dVar 6) dNil)) dNil))) e m := rfl

/-- _law_gap_rows (0 _law_count_z, 1 _law_top, 2 _law_bottom, 3 _law_spots, 4 _law_k, 5 _law_wide, 6 _law_width) -/
noncomputable def F_w_gap_rows (c : Cs) : DFn := dFn 7 (dSeq (dSet 3 (dSortSet (dComp (dItR1 (dCons (dVar 0) dNil)) (dName 4) dYes (C_w_gap_rows_1 c) [4]))) (dSeq (dSet 5 (dBin gCat (dComp (dItR1 (dCons (dBin gSub (dFun gLen (dCons (dVar 3) dNil)) (dC (.int 1))) dNil)) (dName 4) dYes (C_w_gap_rows_2 c) [4]) (dLst (dCons (dFun gInt (dCons (dBin gSub (dBin gAdd (dBin gIx (dVar 3) (dC (.int 0))) (dVar 2)) (dBin gIx (dVar 3) (dNegI (dC (.int 1))))) dNil)) dNil)))) (dRet (dComp (dItL (dSortSet (dVar 5))) (dName 6) dYes (C_w_gap_rows_3 c) [6]))))

/-- is_whole (0 value) -/
noncomputable def F_is_whole (c : Cs) : DFn := dFn 1 (dRet (dAnd (dIsi (ans_int c) (dVar 0)) (dNot (dIsi (ans_bool c) (dVar 0)))))

/-- is_number (0 value, 1 least, 2 most) -/
noncomputable def F_is_number (c : Cs) : DFn := dFn 3 (dSeq (dIfS (dOrT (dNotT (dTst (dFun (padF 1 [] (F_is_whole c)) (dCons (dVar 0) dNil)))) (dTst (dBin gLt (dVar 0) (dVar 1)))) (dRet (dC (.bl false))) dSkip) (dRet (dOr (dBin gIsN (dVar 2) (dC .non)) (dBin gLe (dVar 0) (dVar 2)))))

/-- is_ratio (0 value) -/
noncomputable def F_is_ratio (c : Cs) : DFn := dFn 1 (dRet (dIsi (ans_Ratio__Ratio c) (dVar 0)))

/-- need_ratio (0 value) -/
noncomputable def F_need_ratio (c : Cs) : DFn := dFn 1 (dIfS (dNotT (dTst (dFun (padF 1 [] (F_is_ratio c)) (dCons (dVar 0) dNil)))) dStuck dSkip)

/-- Ratio.bottom (0 self) -/
noncomputable def F_Ratio_bottom (c : Cs) : DFn := dFn 1 (dRet (dFld [(c.kRatio, 1)] (dVar 0)))

noncomputable def T_common_divisor_1 (c : Cs) : DT := (dTst (dBin gNe (dVar 1) (dC (.int 0))))
theorem T_common_divisor_1_ap (c : Cs) (e : En) (m : Mu) : T_common_divisor_1 c e m = (dTst (dBin gNe (dVar 1) (dC (.int 0)))) e m := rfl

noncomputable def B_common_divisor_1 (c : Cs) : DS := (dPar 0 1 (dCons (dVar 1) (dCons (dBin gMod (dVar 0) (dVar 1)) dNil)))
theorem B_common_divisor_1_ap (c : Cs) (e : En) (m : Mu) : B_common_divisor_1 c e m = (dPar 0 1 (dCons (dVar 1) (dCons (dBin gMod (dVar 0) (dVar 1)) dNil))) e m := rfl

/-- common_divisor (0 one, 1 other) -/
noncomputable def F_common_divisor (c : Cs) : DFn := dFn 2 (dSeq (dWhile (T_common_divisor_1 c) (B_common_divisor_1 c)) (dRet (dVar 0)))

/-- Ratio.__init__ (0 self, 1 top, 2 bottom, 3 divisor) -/
noncomputable def F_RatioD_initD (c : Cs) : DFn := dFn 4 (dSeq (dIfS (dOrT (dNotT (dTst (dFun (padF 1 [] (F_is_whole c)) (dCons (dVar 1) dNil)))) (dOrT (dNotT (dTst (dFun (padF 1 [] (F_is_whole c)) (dCons (dVar 2) dNil)))) (dTst (dBin gEq (dVar 2) (dC (.int 0)))))) dStuck dSkip) (dSeq (dSet 3 (dFun (padF 2 [] (F_common_divisor c)) (dCons (dFun gAbs (dCons (dVar 1) dNil)) (dCons (dFun gAbs (dCons (dVar 2) dNil)) dNil)))) (dSeq (dSet 3 (dIf (dTst (dBin gLt (dVar 2) (dC (.int 0)))) (dNegI (dVar 3)) (dVar 3))) (dSeq (dPutF [c.cRatio] "own_top" (dBin gDiv (dVar 1) (dVar 3)) (dVar 0)) (dPutF [c.cRatio] "own_bottom" (dBin gDiv (dVar 2) (dVar 3)) (dVar 0))))))

/-- Ratio.moment (0 self) -/
noncomputable def F_Ratio_moment (c : Cs) : DFn := dFn 1 (dRet (dMake c.cRatio (padF 3 [] (F_RatioD_initD c)) (dCons (dBin gMod (dFld [(c.kRatio, 0)] (dVar 0)) (dFld [(c.kRatio, 1)] (dVar 0))) (dCons (dFld [(c.kRatio, 1)] (dVar 0)) dNil))))

/-- Ratio.top (0 self) -/
noncomputable def F_Ratio_top (c : Cs) : DFn := dFn 1 (dRet (dFld [(c.kRatio, 0)] (dVar 0)))

noncomputable def T_nearest_steps_1 (c : Cs) : DT := (dTst (dBin gLt (dBin gAdd (dVar 3) (dVar 4)) (dVar 0)))
theorem T_nearest_steps_1_ap (c : Cs) (e : En) (m : Mu) : T_nearest_steps_1 c e m = (dTst (dBin gLt (dBin gAdd (dVar 3) (dVar 4)) (dVar 0))) e m := rfl

noncomputable def B_nearest_steps_1 (c : Cs) : DS := (dIfS (dTst (dBin gGt (dVar 5) (dVar 6))) (dSeq (dSet 7 (dFun gMin2 (dCons (dFun gInt (dCons (dBin gDiv (dBin gSub (dVar 5) (dC (.int 1))) (dVar 6)) dNil)) (dCons (dFun gInt (dCons (dBin gDiv (dBin gSub (dBin gSub (dVar 0) (dC (.int 1))) (dVar 3)) (dVar 4)) dNil)) dNil)))) (dPar 3 5 (dCons (dBin gAdd (dVar 3) (dBin gMul (dVar 7) (dVar 4))) (dCons (dBin gSub (dVar 5) (dBin gMul (dVar 7) (dVar 6))) dNil)))) (dSeq (dSet 7 (dFun gMin2 (dCons (dFun gInt (dCons (dBin gDiv (dBin gSub (dVar 6) (dC (.int 1))) (dVar 5)) dNil)) (dCons (dFun gInt (dCons (dBin gDiv (dBin gSub (dBin gSub (dVar 0) (dC (.int 1))) (dVar 4)) (dVar 3)) dNil)) dNil)))) (dPar 4 6 (dCons (dBin gAdd (dVar 4) (dBin gMul (dVar 7) (dVar 3))) (dCons (dBin gSub (dVar 6) (dBin gMul (dVar 7) (dVar 5))) dNil)))))
theorem B_nearest_steps_1_ap (c : Cs) (e : En) (m : Mu) : B_nearest_steps_1 c e m = (dIfS (dTst (dBin gGt (dVar 5) (dVar 6))) (dSeq (dSet 7 (dFun gMin2 (dCons (dFun gInt (dCons (dBin gDiv (dBin gSub (dVar 5) (dC (.int 1))) (dVar 6)) dNil)) (dCons (dFun gInt (dCons (dBin gDiv (dBin gSub (dBin gSub (dVar 0) (dC (.int 1))) (dVar 3)) (dVar 4)) dNil)) dNil)))) (dPar 3 5 (dCons (dBin gAdd (dVar 3) (dBin gMul (dVar 7) (dVar 4))) (dCons (dBin gSub (dVar 5) (dBin gMul (dVar 7) (dVar 6))) dNil)))) (dSeq (dSet 7 (dFun gMin2 (dCons (dFun gInt (dCons (dBin gDiv (dBin gSub (dVar 6) (dC (.int 1))) (dVar 5)) dNil)) (dCons (dFun gInt (dCons (dBin gDiv (dBin gSub (dBin gSub (dVar 0) (dC (.int 1))) (dVar 4)) (dVar 3)) dNil)) dNil)))) (dPar 4 6 (dCons (dBin gAdd (dVar 4) (dBin gMul (dVar 7) (dVar 3))) (dCons (dBin gSub (dVar 6) (dBin gMul (dVar 7) (dVar 5))) dNil))))) e m := rfl

/-- nearest_steps (0 count, 1 top, 2 bottom, 3 behind, 4 ahead, 5 right, 6 left, 7 times) -/
noncomputable def F_nearest_steps (c : Cs) : DFn := dFn 8 (dSeq (dAsg (dTup (dCons (dC (.int 1)) (dCons (dC (.int 1)) (dCons (dVar 1) (dCons (dBin gSub (dVar 2) (dVar 1)) dNil))))) (dTupG 4 (dGcons (dName 3) (dGcons (dName 4) (dGcons (dName 5) (dGcons (dName 6) dGnil)))))) (dSeq (dWhile (T_nearest_steps_1 c) (B_nearest_steps_1 c)) (dRet (dTup (dCons (dVar 3) (dCons (dVar 4) (dCons (dVar 5) (dCons (dVar 6) dNil))))))))

noncomputable def I_gaps_between_1 (c : Cs) : DT := (dTst (dBin gGt (dVar 11) (dC (.int 0))))
theorem I_gaps_between_1_ap (c : Cs) (e : En) (m : Mu) : I_gaps_between_1 c e m = (dTst (dBin gGt (dVar 11) (dC (.int 0)))) e m := rfl

noncomputable def C_gaps_between_1 (c : Cs) : DE := (dTup (dCons (dMake c.cRatio (padF 3 [] (F_RatioD_initD c)) (dCons (dVar 10) (dCons (dVar 3) dNil))) (dCons (dVar 11) dNil)))
theorem C_gaps_between_1_ap (c : Cs) (e : En) (m : Mu) : C_gaps_between_1 c e m = (dTup (dCons (dMake c.cRatio (padF 3 [] (F_RatioD_initD c)) (dCons (dVar 10) (dCons (dVar 3) dNil))) (dCons (dVar 11) dNil))) e m := rfl

/-- gaps_between (0 count, 1 step, 2 top, 3 bottom, 4 behind, 5 ahead, 6 right, 7 left, 8 near, 9 rows, 10 width, 11 many) -/
noncomputable def F_gaps_between (c : Cs) : DFn := dFn 12 (dSeq (dAsg (dTup (dCons (dProp [(c.kRatio, padF 1 [] (F_Ratio_top c))] (dMeth [(c.kRatio, padF 1 [] (F_Ratio_moment c))] (dVar 1) dNil)) (dCons (dProp [(c.kRatio, padF 1 [] (F_Ratio_bottom c))] (dVar 1)) dNil))) (dTupG 2 (dGcons (dName 2) (dGcons (dName 3) dGnil)))) (dSeq (dIfS (dTst (dBin gEq (dVar 0) (dC (.int 1)))) (dRet (dLoc (dCons (dTup (dCons (dMake c.cRatio (padF 3 [.int 1] (F_RatioD_initD c)) (dCons (dC (.int 1)) dNil)) (dCons (dC (.int 1)) dNil))) dNil))) dSkip) (dSeq (dIfS (dTst (dBin gGe (dVar 0) (dVar 3))) (dRet (dLoc (dCons (dTup (dCons (dMake c.cRatio (padF 3 [] (F_RatioD_initD c)) (dCons (dC (.int 1)) (dCons (dVar 3) dNil))) (dCons (dVar 3) dNil))) dNil))) dSkip) (dSeq (dAsg (dFun (padF 3 [] (F_nearest_steps c)) (dCons (dVar 0) (dCons (dVar 2) (dCons (dVar 3) dNil)))) (dTupG 4 (dGcons (dName 4) (dGcons (dName 5) (dGcons (dName 6) (dGcons (dName 7) dGnil)))))) (dSeq (dSet 8 (dIf (dTst (dBin gNe (dVar 6) (dVar 7))) (dLst (dCons (dTup (dCons (dVar 6) (dCons (dBin gSub (dVar 0) (dVar 4)) dNil))) (dCons (dTup (dCons (dVar 7) (dCons (dBin gSub (dVar 0) (dVar 5)) dNil))) dNil))) (dLst (dCons (dTup (dCons (dVar 6) (dCons (dBin gSub (dBin gSub (dBin gMul (dC (.int 2)) (dVar 0)) (dVar 4)) (dVar 5)) dNil))) dNil)))) (dSeq (dSet 9 (dFun gSortP (dCons (dLst (dStar (dVar 8) (dCons (dTup (dCons (dBin gAdd (dVar 6) (dVar 7)) (dCons (dBin gSub (dBin gAdd (dVar 4) (dVar 5)) (dVar 0)) dNil))) dNil))) dNil))) (dRet (dCompM (dItL (dVar 9)) (dTupG 2 (dGcons (dName 10) (dGcons (dName 11) dGnil))) (I_gaps_between_1 c) (C_gaps_between_1 c) [10, 11]))))))))

/-- gap_widths (0 count, 1 step) -/
noncomputable def F_gap_widths (c : Cs) : DFn := dFn 2 (dSeq (dIfS (dNotT (dTst (dFun (padF 3 [] (F_is_number c)) (dCons (dVar 0) (dCons (dC (.int 1)) (dCons (dC (.int 1000000000000000000000000000000)) dNil)))))) dStuck dSkip) (dSeq (dDrop (dFun (padF 1 [] (F_need_ratio c)) (dCons (dVar 1) dNil))) (dRet (dFun (padF 2 [] (F_gaps_between c)) (dCons (dVar 0) (dCons (dVar 1) dNil))))))

noncomputable def GK_gap_widths_1_step (c : Cs) : DFn := fun ds m => match pick [0, 1] (ds ++ []) with
  | some xs => F_gap_widths c xs m
  | none => .stuck

noncomputable def T_w_divisor_1 (c : Cs) : DT := (dTst (dBin gGt (dVar 1) (dC (.int 0))))
theorem T_w_divisor_1_ap (c : Cs) (e : En) (m : Mu) : T_w_divisor_1 c e m = (dTst (dBin gGt (dVar 1) (dC (.int 0)))) e m := rfl

noncomputable def B_w_divisor_1 (c : Cs) : DS := (dPar 0 1 (dCons (dVar 1) (dCons (dBin gMod (dFun gInt (dCons (dVar 0) dNil)) (dVar 1)) dNil)))
theorem B_w_divisor_1_ap (c : Cs) (e : En) (m : Mu) : B_w_divisor_1 c e m = (dPar 0 1 (dCons (dVar 1) (dCons (dBin gMod (dFun gInt (dCons (dVar 0) dNil)) (dVar 1)) dNil))) e m := rfl

/-- _law_divisor (0 _law_a, 1 _law_b) -/
noncomputable def F_w_divisor (c : Cs) : DFn := dFn 2 (dSeq (dWhile (T_w_divisor_1 c) (B_w_divisor_1 c)) (dRet (dVar 0)))

/-- _law_frac (0 _law_a, 1 _law_b, 2 _law_by) -/
noncomputable def F_w_frac (c : Cs) : DFn := dFn 3 (dSeq (dSet 2 (dFun (padF 2 [] (F_w_divisor c)) (dCons (dFun gAbs (dCons (dVar 0) dNil)) (dCons (dFun gAbs (dCons (dVar 1) dNil)) dNil)))) (dSeq (dSet 2 (dIf (dTst (dBin gGt (dVar 1) (dC (.int 0)))) (dVar 2) (dBin gSub (dC (.int 0)) (dVar 2)))) (dRet (dTup (dCons (dBin gDiv (dVar 0) (dVar 2)) (dCons (dBin gDiv (dVar 1) (dVar 2)) dNil))))))

/-- _law_parts (0 _law_found) -/
noncomputable def F_w_parts (c : Cs) : DFn := dFn 1 (dRet (dIf (dTst (dIsi (ans_Ratio__Ratio c) (dVar 0))) (dTup (dCons (dProp [(c.kRatio, padF 1 [] (F_Ratio_top c))] (dVar 0)) (dCons (dProp [(c.kRatio, padF 1 [] (F_Ratio_bottom c))] (dVar 0)) dNil))) (dC .non)))

/-- _law_like (0 _law_found, 1 _law_due, 2 _law_one, 3 _law_two) -/
noncomputable def F_w_like (c : Cs) : Nat → DFn
  | 0 => fun _ _ => .stuck
  | n + 1 => dFn 4 (dSeq (dIfS (dOrT (dTst (dBin gIsN (dVar 1) (dC .non))) (dTst (dBin gIsN (dVar 0) (dC .non)))) (dRet (dAnd (dBin gIsN (dVar 1) (dC .non)) (dBin gIsN (dVar 0) (dC .non)))) dSkip) (dSeq (dIfS (dTst (dIsi (ans_list_tuple c) (dVar 1))) (dSeq (dIfS (dOrT (dTst (dBin gNe (dIsi (ans_list c) (dVar 0)) (dIsi (ans_list c) (dVar 1)))) (dTst (dBin gNe (dIsi (ans_tuple c) (dVar 0)) (dIsi (ans_tuple c) (dVar 1))))) (dRet (dC (.bl false))) dSkip) (dRet (dAnd (dBin gEq (dFun gLen (dCons (dVar 0) dNil)) (dFun gLen (dCons (dVar 1) dNil))) (dFun gAll (dCons (dComp (dItZ (dCons (dVar 0) (dCons (dVar 1) dNil))) (dTupG 2 (dGcons (dName 2) (dGcons (dName 3) dGnil))) dYes (dFun (padF 2 [] (F_w_like c n)) (dCons (dVar 2) (dCons (dVar 3) dNil))) [2, 3]) dNil))))) dSkip) (dSeq (dIfS (dOrT (dTst (dBin gNe (dIsi (ans_bool c) (dVar 0)) (dIsi (ans_bool c) (dVar 1)))) (dTst (dBin gNe (dIsi (ans_int c) (dVar 0)) (dIsi (ans_int c) (dVar 1))))) (dRet (dC (.bl false))) dSkip) (dRet (dAnd (dBin gEq (dIsi (ans_str c) (dVar 0)) (dIsi (ans_str c) (dVar 1))) (dBin gEq (dVar 0) (dVar 1)))))))

/-- greatest_gap (0 count, 1 step) -/
noncomputable def F_greatest_gap (c : Cs) : DFn := dFn 2 (dRet (dBin gIx (dBin gIx (dFun (padF 2 [] (F_gap_widths c)) (dCons (dVar 0) (dCons (dVar 1) dNil))) (dNegI (dC (.int 1)))) (dC (.int 0))))

noncomputable def GK_greatest_gap_0_step_count (c : Cs) : DFn := fun ds m => match pick [1, 0] (ds ++ []) with
  | some xs => F_greatest_gap c xs m
  | none => .stuck

/-- _law_is (0 _law_found, 1 _law_a, 2 _law_b) -/
noncomputable def F_w_is (c : Cs) : DFn := dFn 3 (dRet (dFun (padF 2 [] (F_w_like c 8)) (dCons (dFun (padF 1 [] (F_w_parts c)) (dCons (dVar 0) dNil)) (dCons (dFun (padF 2 [] (F_w_frac c)) (dCons (dVar 1) (dCons (dVar 2) dNil))) dNil))))

noncomputable def C_law_1 (c : Cs) : DE := (dTup (dCons (dFun (padF 2 [] (F_w_frac c)) (dCons (dVar 8) (dCons (dVar 4) dNil))) (dCons (dVar 9) dNil)))
theorem C_law_1_ap (c : Cs) (e : En) (m : Mu) : C_law_1 c e m = (dTup (dCons (dFun (padF 2 [] (F_w_frac c)) (dCons (dVar 8) (dCons (dVar 4) dNil))) (dCons (dVar 9) dNil))) e m := rfl

noncomputable def C_law_2 (c : Cs) : DE := (dTup (dCons (dFun (padF 1 [] (F_w_parts c)) (dCons (dVar 8) dNil)) (dCons (dVar 9) dNil)))
theorem C_law_2_ap (c : Cs) (e : En) (m : Mu) : C_law_2 c e m = (dTup (dCons (dFun (padF 1 [] (F_w_parts c)) (dCons (dVar 8) dNil)) (dCons (dVar 9) dNil))) e m := rfl

noncomputable def B_law_1 (c : Cs) : DS := (dSeq (dAsg (dTup (dCons (dBin gAdd (dC (.int 1)) (dFun (padF 2 [] (F_w_take c)) (dCons (dVar 1) (dCons (dC (.int 40)) dNil)))) (dCons (dBin gAdd (dC (.int 1)) (dFun (padF 2 [] (F_w_take c)) (dCons (dVar 1) (dCons (dC (.int 60)) dNil)))) dNil))) (dTupG 2 (dGcons (dName 3) (dGcons (dName 4) dGnil)))) (dSeq (dSet 5 (dBin gSub (dFun (padF 2 [] (F_w_take c)) (dCons (dVar 1) (dCons (dBin gAdd (dBin gMul (dC (.int 4)) (dVar 4)) (dC (.int 1))) dNil))) (dBin gMul (dC (.int 2)) (dVar 4)))) (dSeq (dSet 6 (dFun (padF 3 [] (F_w_gap_rows c)) (dCons (dVar 3) (dCons (dVar 5) (dCons (dVar 4) dNil))))) (dSeq (dSet 7 (dFunK (GK_gap_widths_1_step c) 1 1 (dCons (dVar 3) dNil) (dCons (dMake c.cRatio (padF 3 [] (F_RatioD_initD c)) (dCons (dVar 5) (dCons (dVar 4) dNil))) dNil))) (dSeq (dIfS (dOrT (dNotT (dTst (dIsi (ans_list c) (dVar 7)))) (dNotT (dTst (dFun (padF 2 [] (F_w_like c 8)) (dCons (dCompS fF (dVar 7) (dTupG 2 (dGcons (dName 8) (dGcons (dName 9) dGnil))) dYes (C_law_2 c) [8, 9]) (dCons (dComp (dItL (dVar 6)) (dTupG 2 (dGcons (dName 8) (dGcons (dName 9) dGnil))) dYes (C_law_1 c) [8, 9]) dNil)))))) (dRet (dC (.bl false))) dSkip) (dSeq (dDrop (dLm fClear (dVar 7) dNil)) (dIfS (dNotT (dTst (dFun (padF 3 [] (F_w_is c)) (dCons (dFunK (GK_greatest_gap_0_step_count c) 0 2 dNil (dCons (dMake c.cRatio (padF 3 [] (F_RatioD_initD c)) (dCons (dVar 5) (dCons (dVar 4) dNil))) (dCons (dVar 3) dNil))) (dCons (dBin gIx (dBin gIx (dVar 6) (dNegI (dC (.int 1)))) (dC (.int 0))) (dCons (dVar 4) dNil)))))) (dRet (dC (.bl false))) dSkip)))))))
theorem B_law_1_ap (c : Cs) (e : En) (m : Mu) : B_law_1 c e m = (dSeq (dAsg (dTup (dCons (dBin gAdd (dC (.int 1)) (dFun (padF 2 [] (F_w_take c)) (dCons (dVar 1) (dCons (dC (.int 40)) dNil)))) (dCons (dBin gAdd (dC (.int 1)) (dFun (padF 2 [] (F_w_take c)) (dCons (dVar 1) (dCons (dC (.int 60)) dNil)))) dNil))) (dTupG 2 (dGcons (dName 3) (dGcons (dName 4) dGnil)))) (dSeq (dSet 5 (dBin gSub (dFun (padF 2 [] (F_w_take c)) (dCons (dVar 1) (dCons (dBin gAdd (dBin gMul (dC (.int 4)) (dVar 4)) (dC (.int 1))) dNil))) (dBin gMul (dC (.int 2)) (dVar 4)))) (dSeq (dSet 6 (dFun (padF 3 [] (F_w_gap_rows c)) (dCons (dVar 3) (dCons (dVar 5) (dCons (dVar 4) dNil))))) (dSeq (dSet 7 (dFunK (GK_gap_widths_1_step c) 1 1 (dCons (dVar 3) dNil) (dCons (dMake c.cRatio (padF 3 [] (F_RatioD_initD c)) (dCons (dVar 5) (dCons (dVar 4) dNil))) dNil))) (dSeq (dIfS (dOrT (dNotT (dTst (dIsi (ans_list c) (dVar 7)))) (dNotT (dTst (dFun (padF 2 [] (F_w_like c 8)) (dCons (dCompS fF (dVar 7) (dTupG 2 (dGcons (dName 8) (dGcons (dName 9) dGnil))) dYes (C_law_2 c) [8, 9]) (dCons (dComp (dItL (dVar 6)) (dTupG 2 (dGcons (dName 8) (dGcons (dName 9) dGnil))) dYes (C_law_1 c) [8, 9]) dNil)))))) (dRet (dC (.bl false))) dSkip) (dSeq (dDrop (dLm fClear (dVar 7) dNil)) (dIfS (dNotT (dTst (dFun (padF 3 [] (F_w_is c)) (dCons (dFunK (GK_greatest_gap_0_step_count c) 0 2 dNil (dCons (dMake c.cRatio (padF 3 [] (F_RatioD_initD c)) (dCons (dVar 5) (dCons (dVar 4) dNil))) (dCons (dVar 3) dNil))) (dCons (dBin gIx (dBin gIx (dVar 6) (dNegI (dC (.int 1)))) (dC (.int 0))) (dCons (dVar 4) dNil)))))) (dRet (dC (.bl false))) dSkip))))))) e m := rfl

noncomputable def C_law_3 (c : Cs) : DE := (dTup (dCons (dFun (padF 1 [] (F_w_parts c)) (dCons (dVar 8) dNil)) (dCons (dVar 9) dNil)))
theorem C_law_3_ap (c : Cs) (e : En) (m : Mu) : C_law_3 c e m = (dTup (dCons (dFun (padF 1 [] (F_w_parts c)) (dCons (dVar 8) dNil)) (dCons (dVar 9) dNil))) e m := rfl

/-- law (0 _law_script, 1 _law_bag, 2 _law_turn, 3 _law_count_z, 4 _law_bottom, 5 _law_top, 6 _law_due, 7 _law_told, 8 _law_width, 9 _law_many) -/
noncomputable def F_law (c : Cs) : DFn := dFn 10 (dSeq (dSet 1 (dFun (padF 1 [] (F_w_begin c)) (dCons (dVar 0) dNil))) (dSeq (dFor (dItR1 (dCons (dC (.int 8)) dNil)) (dName 2) (B_law_1 c)) (dSeq (dSet 7 (dFun (padF 2 [] (F_gap_widths c)) (dCons (dC (.int 4)) (dCons (dMake c.cRatio (padF 3 [] (F_RatioD_initD c)) (dCons (dC (.int 2)) (dCons (dC (.int 5)) dNil))) dNil)))) (dRet (dFun (padF 2 [] (F_w_like c 8)) (dCons (dCompS fF (dVar 7) (dTupG 2 (dGcons (dName 8) (dGcons (dName 9) dGnil))) dYes (C_law_3 c) [8, 9]) (dCons (dLst (dCons (dTup (dCons (dTup (dCons (dC (.int 1)) (dCons (dC (.int 5)) dNil))) (dCons (dC (.int 3)) dNil))) (dCons (dTup (dCons (dTup (dCons (dC (.int 2)) (dCons (dC (.int 5)) dNil))) (dCons (dC (.int 1)) dNil))) dNil))) dNil)))))))

end W

set_option maxHeartbeats 0
namespace W
open PySem PySem.Spec L2 DL

theorem sc_w_begin : FnScope ["_law_script"] ["_law_script"] (defScope s_w_begin) := ⟨rfl, rfl, rfl, by decide +kernel, rfl, by decide +kernel, by decide +kernel⟩

theorem sc_w_take : FnScope ["_law_bag", "_law_many", "_law_cell", "_law_digit", "_law_old"] ["_law_bag", "_law_many"] (defScope s_w_take) := ⟨rfl, rfl, rfl, by decide +kernel, rfl, by decide +kernel, by decide +kernel⟩

theorem sc_w_gap_rows : FnScope ["_law_count_z", "_law_top", "_law_bottom", "_law_spots", "_law_k", "_law_wide", "_law_width"] ["_law_count_z", "_law_top", "_law_bottom"] (defScope s_w_gap_rows) := ⟨rfl, rfl, rfl, by decide +kernel, rfl, by decide +kernel, by decide +kernel⟩

theorem sc_is_whole : FnScope ["value"] ["value"] (defScope s_is_whole) := ⟨rfl, rfl, rfl, by decide +kernel, rfl, by decide +kernel, by decide +kernel⟩

theorem sc_is_number : FnScope ["value", "least", "most"] ["value", "least", "most"] (defScope s_is_number) := ⟨rfl, rfl, rfl, by decide +kernel, rfl, by decide +kernel, by decide +kernel⟩

theorem sc_is_ratio : FnScope ["value"] ["value"] (defScope s_is_ratio) := ⟨rfl, rfl, rfl, by decide +kernel, rfl, by decide +kernel, by decide +kernel⟩

theorem sc_need_ratio : FnScope ["value"] ["value"] (defScope s_need_ratio) := ⟨rfl, rfl, rfl, by decide +kernel, rfl, by decide +kernel, by decide +kernel⟩

theorem sc_Ratio_bottom : FnScope ["self"] ["self"] (defScope s_Ratio_bottom) := ⟨rfl, rfl, rfl, by decide +kernel, rfl, by decide +kernel, by decide +kernel⟩

theorem sc_common_divisor : FnScope ["one", "other"] ["one", "other"] (defScope s_common_divisor) := ⟨rfl, rfl, rfl, by decide +kernel, rfl, by decide +kernel, by decide +kernel⟩

theorem sc_RatioD_initD : FnScope ["self", "top", "bottom", "divisor"] ["self", "top", "bottom"] (defScope s_RatioD_initD) := ⟨rfl, rfl, rfl, by decide +kernel, rfl, by decide +kernel, by decide +kernel⟩

theorem sc_Ratio_moment : FnScope ["self"] ["self"] (defScope s_Ratio_moment) := ⟨rfl, rfl, rfl, by decide +kernel, rfl, by decide +kernel, by decide +kernel⟩

theorem sc_Ratio_top : FnScope ["self"] ["self"] (defScope s_Ratio_top) := ⟨rfl, rfl, rfl, by decide +kernel, rfl, by decide +kernel, by decide +kernel⟩

theorem sc_nearest_steps : FnScope ["count", "top", "bottom", "behind", "ahead", "right", "left", "times"] ["count", "top", "bottom"] (defScope s_nearest_steps) := ⟨rfl, rfl, rfl, by decide +kernel, rfl, by decide +kernel, by decide +kernel⟩

theorem sc_gaps_between : FnScope ["count", "step", "top", "bottom", "behind", "ahead", "right", "left", "near", "rows", "width", "many"] ["count", "step"] (defScope s_gaps_between) := ⟨rfl, rfl, rfl, by decide +kernel, rfl, by decide +kernel, by decide +kernel⟩

theorem sc_gap_widths : FnScope ["count", "step"] ["count", "step"] (defScope s_gap_widths) := ⟨rfl, rfl, rfl, by decide +kernel, rfl, by decide +kernel, by decide +kernel⟩

theorem sc_w_divisor : FnScope ["_law_a", "_law_b"] ["_law_a", "_law_b"] (defScope s_w_divisor) := ⟨rfl, rfl, rfl, by decide +kernel, rfl, by decide +kernel, by decide +kernel⟩

theorem sc_w_frac : FnScope ["_law_a", "_law_b", "_law_by"] ["_law_a", "_law_b"] (defScope s_w_frac) := ⟨rfl, rfl, rfl, by decide +kernel, rfl, by decide +kernel, by decide +kernel⟩

theorem sc_w_parts : FnScope ["_law_found"] ["_law_found"] (defScope s_w_parts) := ⟨rfl, rfl, rfl, by decide +kernel, rfl, by decide +kernel, by decide +kernel⟩

theorem sc_w_like : FnScope ["_law_found", "_law_due", "_law_one", "_law_two"] ["_law_found", "_law_due"] (defScope s_w_like) := ⟨rfl, rfl, rfl, by decide +kernel, rfl, by decide +kernel, by decide +kernel⟩

theorem sc_greatest_gap : FnScope ["count", "step"] ["count", "step"] (defScope s_greatest_gap) := ⟨rfl, rfl, rfl, by decide +kernel, rfl, by decide +kernel, by decide +kernel⟩

theorem sc_w_is : FnScope ["_law_found", "_law_a", "_law_b"] ["_law_found", "_law_a", "_law_b"] (defScope s_w_is) := ⟨rfl, rfl, rfl, by decide +kernel, rfl, by decide +kernel, by decide +kernel⟩

theorem sc_law : FnScope ["_law_script", "_law_bag", "_law_turn", "_law_count_z", "_law_bottom", "_law_top", "_law_due", "_law_told", "_law_width", "_law_many"] ["_law_script"] (defScope s_law) := ⟨rfl, rfl, rfl, by decide +kernel, rfl, by decide +kernel, by decide +kernel⟩

/-- what the top has written -/
structure Txt (K : PySem.W.Frag) (mg : Str → Option Value) (c : Cs) : Prop where
  fn_w_begin : ∃ (f : Addr) (fd : FuncData), mg "_law_begin" = some (.ref f) ∧ FunD K "_law_begin" "_law_begin" (defArgs s_w_begin) (defBody s_w_begin) (defScope s_w_begin) [] [] f fd
  fn_w_take : ∃ (f : Addr) (fd : FuncData), mg "_law_take" = some (.ref f) ∧ FunD K "_law_take" "_law_take" (defArgs s_w_take) (defBody s_w_take) (defScope s_w_take) [] [] f fd
  fn_w_gap_rows : ∃ (f : Addr) (fd : FuncData), mg "_law_gap_rows" = some (.ref f) ∧ FunD K "_law_gap_rows" "_law_gap_rows" (defArgs s_w_gap_rows) (defBody s_w_gap_rows) (defScope s_w_gap_rows) [] [] f fd
  fn_is_whole : ∃ (f : Addr) (fd : FuncData), mg "is_whole" = some (.ref f) ∧ FunD K "is_whole" "is_whole" (defArgs s_is_whole) (defBody s_is_whole) (defScope s_is_whole) [] [] f fd
  fn_is_number : ∃ (f : Addr) (fd : FuncData), mg "is_number" = some (.ref f) ∧ FunD K "is_number" "is_number" (defArgs s_is_number) (defBody s_is_number) (defScope s_is_number) [.int 0, .non] [] f fd
  fn_is_ratio : ∃ (f : Addr) (fd : FuncData), mg "is_ratio" = some (.ref f) ∧ FunD K "is_ratio" "is_ratio" (defArgs s_is_ratio) (defBody s_is_ratio) (defScope s_is_ratio) [] [] f fd
  fn_need_ratio : ∃ (f : Addr) (fd : FuncData), mg "need_ratio" = some (.ref f) ∧ FunD K "need_ratio" "need_ratio" (defArgs s_need_ratio) (defBody s_need_ratio) (defScope s_need_ratio) [] [] f fd
  pr_Ratio_bottom : ∃ (pp g : Addr) (fd : FuncData), PropOf K c.cRatio "bottom" pp g ∧ FunD K "bottom" "Ratio.bottom" (defArgs s_Ratio_bottom) (defBody s_Ratio_bottom) (defScope s_Ratio_bottom) [] [] g fd
  fn_common_divisor : ∃ (f : Addr) (fd : FuncData), mg "common_divisor" = some (.ref f) ∧ FunD K "common_divisor" "common_divisor" (defArgs s_common_divisor) (defBody s_common_divisor) (defScope s_common_divisor) [] [] f fd
  me_RatioD_initD : ∃ (f : Addr) (fd : FuncData), PySem.W.findIn K (.ref c.cRatio) "__init__" = some (some (.ref f)) ∧ PySem.W.isFn K (.ref f) = true ∧ FunD K "__init__" "Ratio.__init__" (defArgs s_RatioD_initD) (defBody s_RatioD_initD) (defScope s_RatioD_initD) [.int 1] [] f fd
  me_Ratio_moment : ∃ (f : Addr) (fd : FuncData), PySem.W.findIn K (.ref c.cRatio) "moment" = some (some (.ref f)) ∧ PySem.W.isFn K (.ref f) = true ∧ FunD K "moment" "Ratio.moment" (defArgs s_Ratio_moment) (defBody s_Ratio_moment) (defScope s_Ratio_moment) [] [] f fd
  pr_Ratio_top : ∃ (pp g : Addr) (fd : FuncData), PropOf K c.cRatio "top" pp g ∧ FunD K "top" "Ratio.top" (defArgs s_Ratio_top) (defBody s_Ratio_top) (defScope s_Ratio_top) [] [] g fd
  fn_nearest_steps : ∃ (f : Addr) (fd : FuncData), mg "nearest_steps" = some (.ref f) ∧ FunD K "nearest_steps" "nearest_steps" (defArgs s_nearest_steps) (defBody s_nearest_steps) (defScope s_nearest_steps) [] [] f fd
  fn_gaps_between : ∃ (f : Addr) (fd : FuncData), mg "gaps_between" = some (.ref f) ∧ FunD K "gaps_between" "gaps_between" (defArgs s_gaps_between) (defBody s_gaps_between) (defScope s_gaps_between) [] [] f fd
  fn_gap_widths : ∃ (f : Addr) (fd : FuncData), mg "gap_widths" = some (.ref f) ∧ FunD K "gap_widths" "gap_widths" (defArgs s_gap_widths) (defBody s_gap_widths) (defScope s_gap_widths) [] [] f fd
  fn_w_divisor : ∃ (f : Addr) (fd : FuncData), mg "_law_divisor" = some (.ref f) ∧ FunD K "_law_divisor" "_law_divisor" (defArgs s_w_divisor) (defBody s_w_divisor) (defScope s_w_divisor) [] [] f fd
  fn_w_frac : ∃ (f : Addr) (fd : FuncData), mg "_law_frac" = some (.ref f) ∧ FunD K "_law_frac" "_law_frac" (defArgs s_w_frac) (defBody s_w_frac) (defScope s_w_frac) [] [] f fd
  fn_w_parts : ∃ (f : Addr) (fd : FuncData), mg "_law_parts" = some (.ref f) ∧ FunD K "_law_parts" "_law_parts" (defArgs s_w_parts) (defBody s_w_parts) (defScope s_w_parts) [] [] f fd
  fn_w_like : ∃ (f : Addr) (fd : FuncData), mg "_law_like" = some (.ref f) ∧ FunD K "_law_like" "_law_like" (defArgs s_w_like) (defBody s_w_like) (defScope s_w_like) [] [] f fd
  fn_greatest_gap : ∃ (f : Addr) (fd : FuncData), mg "greatest_gap" = some (.ref f) ∧ FunD K "greatest_gap" "greatest_gap" (defArgs s_greatest_gap) (defBody s_greatest_gap) (defScope s_greatest_gap) [] [] f fd
  fn_w_is : ∃ (f : Addr) (fd : FuncData), mg "_law_is" = some (.ref f) ∧ FunD K "_law_is" "_law_is" (defArgs s_w_is) (defBody s_w_is) (defScope s_w_is) [] [] f fd
  fn_law : ∃ (f : Addr) (fd : FuncData), mg "law" = some (.ref f) ∧ FunD K "law" "law" (defArgs s_law) (defBody s_law) (defScope s_law) [] [] f fd
  b_abs : mg "abs" = none
  b_all : mg "all" = none
  b_bool : mg "bool" = none
  b_int : mg "int" = none
  b_isinstance : mg "isinstance" = none
  b_len : mg "len" = none
  b_list : mg "list" = none
  b_min : mg "min" = none
  b_range : mg "range" = none
  b_set : mg "set" = none
  b_sorted : mg "sorted" = none
  b_str : mg "str" = none
  b_tuple : mg "tuple" = none
  b_zip : mg "zip" = none
  g_MOST_COUNT : ∃ t, mg "MOST_COUNT" = some (.int 1000000000000000000000000000000 t)
  cl_Ratio : Cls K c.cRatio
  gc_Ratio : mg "Ratio" = some (.ref c.cRatio)
  mk_Ratio : PySem.W.makesIn K c.cRatio = true ∧ PySem.W.keepIn K (.ref c.cRatio) = true
  fl_Ratio_own_bottom : FldOk K "own_bottom" c.kRatio 1
  fl_Ratio_own_top : FldOk K "own_top" c.kRatio 0
  in_Ratio : InsK K c.cRatio
  ans_Ratio__Ratio : AnsOk K (ans_Ratio__Ratio c) [.ref c.cRatio]
  ans_bool : AnsOk K (ans_bool c) [.type "bool"]
  ans_int : AnsOk K (ans_int c) [.type "int"]
  ans_list : AnsOk K (ans_list c) [.type "list"]
  ans_list_tuple : AnsOk K (ans_list_tuple c) [.type "list", .type "tuple"]
  ans_str : AnsOk K (ans_str c) [.type "str"]
  ans_tuple : AnsOk K (ans_tuple c) [.type "tuple"]

section
variable {P : Program} {w : World} {K : PySem.W.Frag} {mg : Str → Option Value} {base : Heap} {c : Cs}

theorem ok_w_begin (T : Txt K mg c) {f : Addr} {fd : FuncData} (FD : FunD K "_law_begin" "_law_begin" (defArgs s_w_begin) (defBody s_w_begin) (defScope s_w_begin) [] [] f fd) : FnD P w K mg base 1 f fd ["_law_script"] (F_w_begin c) := fnD_of (N := ["_law_script"]) FD sc_w_begin (fun cdv A outer s H E hr => by
    refine pds_one ?_
    refine pds_ret ?_
    refine pd_loc ?_
    refine pda_c ?_ ?_
    refine pd_bt oc_list T.b_list (by decide +kernel) ?_
    refine pda_c ?_ pda_nil
    refine pd_sl ?_ pdo_none ?_
    exact (pd_var 0)
    exact (pdo_some pd_int)
    refine pda_int ?_
    refine pda_int ?_
    refine pda_c ?_ pda_nil
    refine pd_op od_add pd_int ?_
    refine pd_op od_mul pd_int ?_
    refine pd_bc oc_len T.b_len (by decide +kernel) ?_
    refine pda_c ?_ pda_nil
    refine pd_sl ?_ pdo_none ?_
    exact (pd_var 0)
    exact (pdo_some pd_int))

theorem ft_w_begin_1 (T : Txt K mg c) : FT P w K mg base 1 "_law_begin" (padF 1 [] (F_w_begin c)) := by
  obtain ⟨f, fd, hm, FD⟩ := T.fn_w_begin
  exact ⟨f, fd, _, _, _, hm, FD.kp, ok_w_begin T FD, (Bd.nil (FD.bindsN (fun _ _ _ _ _ _ us hl => match us, hl with | [_], _ => rfl))), rfl⟩

theorem ok_w_take (T : Txt K mg c) {f : Addr} {fd : FuncData} (FD : FunD K "_law_take" "_law_take" (defArgs s_w_take) (defBody s_w_take) (defScope s_w_take) [] [] f fd) : FnD P w K mg base 2 f fd ["_law_bag", "_law_many"] (F_w_take c) := fnD_of (N := ["_law_bag", "_law_many", "_law_cell", "_law_digit", "_law_old"]) FD sc_w_take (fun cdv A outer s H E hr => by
    refine pds_cons ?_ ?_
    refine pds_if ?_ ?_ pds_nil
    refine PDW.pt ?_
    refine pdw_and ?_ ?_
    refine pdt_cmp (od_eq hr.units) ?_ pd_int
    refine pd_ix ?_ pd_int
    exact (pd_var 0)
    refine pdw_and1 ?_
    refine pdt_cmp od_lt ?_ ?_
    refine pd_ix ?_ pd_int
    exact (pd_var 0)
    refine pd_bc oc_len T.b_len (by decide +kernel) ?_
    refine pda_c ?_ pda_nil
    refine pd_ix ?_ pd_int
    exact (pd_var 0)
    refine pds_cons ?_ ?_
    refine pds_set (i := 2) ?_ sc_w_take.nd
    refine pd_bc oc_abs T.b_abs (by decide +kernel) ?_
    refine pda_c ?_ pda_nil
    refine pd_ix ?_ ?_
    refine pd_ix ?_ pd_int
    exact (pd_var 0)
    refine pd_ix ?_ pd_int
    exact (pd_var 0)
    refine pds_cons ?_ ?_
    refine pds_putI ?_ ?_ pd_int
    refine pd_op od_add ?_ pd_int
    refine pd_ix ?_ pd_int
    exact (pd_var 0)
    exact (pd_var 0)
    refine pds_one ?_
    refine pds_if ?_ ?_ ?_
    refine pdt_cmp od_ge ?_ ?_
    exact (pd_var 2)
    exact (pd_op od_pow pd_int pd_int)
    refine pds_one ?_
    refine pds_putI ?_ ?_ pd_int
    exact (pd_var 2)
    exact (pd_var 0)
    refine pds_one ?_
    refine pds_putI ?_ ?_ pd_int
    refine pd_op od_mod ?_ pd_int
    refine pd_bt oc_int T.b_int (by decide +kernel) ?_
    refine pda_c ?_ pda_nil
    refine pd_op od_add ?_ ?_
    refine pd_op od_add ?_ ?_
    refine pd_op od_mul ?_ pd_int
    refine pd_ix ?_ pd_int
    exact (pd_var 0)
    refine pd_op od_mul ?_ pd_int
    refine pd_op od_mod ?_ pd_int
    refine pd_bt oc_int T.b_int (by decide +kernel) ?_
    refine pda_c ?_ pda_nil
    exact (pd_var 2)
    refine pd_ix ?_ pd_int
    exact (pd_var 0)
    exact (pd_var 0)
    refine pds_cons ?_ ?_
    refine pds_if ?_ ?_ pds_nil
    refine pdt_cmp od_gt ?_ pd_int
    refine pd_ix ?_ pd_int
    exact (pd_var 0)
    refine pds_cons ?_ ?_
    refine pds_set (i := 3) ?_ sc_w_take.nd
    refine pd_op od_mod ?_ ?_
    refine pd_bt oc_int T.b_int (by decide +kernel) ?_
    refine pda_c ?_ pda_nil
    refine pd_ix ?_ pd_int
    exact (pd_var 0)
    exact (pd_var 1)
    refine pds_cons ?_ ?_
    refine pds_putI ?_ ?_ pd_int
    refine pd_op od_div ?_ ?_
    refine pd_ix ?_ pd_int
    exact (pd_var 0)
    exact (pd_var 1)
    exact (pd_var 0)
    refine pds_one ?_
    refine pds_ret ?_
    exact (pd_var 3)
    refine pds_cons ?_ ?_
    refine pds_set (i := 4) ?_ sc_w_take.nd
    refine pd_ix ?_ pd_int
    exact (pd_var 0)
    refine pds_cons ?_ ?_
    refine pds_putI ?_ ?_ pd_int
    refine pd_op od_mod ?_ pd_int
    refine pd_bt oc_int T.b_int (by decide +kernel) ?_
    refine pda_c ?_ pda_nil
    refine pd_op od_add ?_ pd_int
    refine pd_op od_add ?_ ?_
    refine pd_op od_mul ?_ ?_
    exact (pd_var 4)
    exact (pd_var 4)
    refine pd_op od_mul ?_ pd_int
    exact (pd_var 4)
    exact (pd_var 0)
    refine pds_one ?_
    refine pds_ret ?_
    refine pd_op od_mod ?_ ?_
    refine pd_bt oc_int T.b_int (by decide +kernel) ?_
    refine pda_c ?_ pda_nil
    refine pd_op od_add ?_ ?_
    refine pd_op od_div ?_ pd_int
    refine pd_ix ?_ pd_int
    exact (pd_var 0)
    refine pd_op od_mul ?_ pd_int
    refine pd_op od_mod ?_ pd_int
    refine pd_bt oc_int T.b_int (by decide +kernel) ?_
    refine pda_c ?_ pda_nil
    refine pd_ix ?_ pd_int
    exact (pd_var 0)
    exact (pd_var 1))

theorem ft_w_take_2 (T : Txt K mg c) : FT P w K mg base 2 "_law_take" (padF 2 [] (F_w_take c)) := by
  obtain ⟨f, fd, hm, FD⟩ := T.fn_w_take
  exact ⟨f, fd, _, _, _, hm, FD.kp, ok_w_take T FD, (Bd.nil (FD.bindsN (fun _ _ _ _ _ _ us hl => match us, hl with | [_, _], _ => rfl))), rfl⟩

theorem ok_w_gap_rows (T : Txt K mg c) {f : Addr} {fd : FuncData} (FD : FunD K "_law_gap_rows" "_law_gap_rows" (defArgs s_w_gap_rows) (defBody s_w_gap_rows) (defScope s_w_gap_rows) [] [] f fd) : FnD P w K mg base 1 f fd ["_law_count_z", "_law_top", "_law_bottom"] (F_w_gap_rows c) := fnD_of (N := ["_law_count_z", "_law_top", "_law_bottom", "_law_spots", "_law_k", "_law_wide", "_law_width"]) FD sc_w_gap_rows (fun cdv A outer s H E hr => by
    refine pds_cons ?_ ?_
    refine pds_set (i := 3) ?_ sc_w_gap_rows.nd
    refine pd_sortSet ?_ (by rfl) T.b_sorted T.b_set
    refine pd_lc ?_ sc_w_gap_rows.nd (blkOk_by (own := [("_law_k", 4)]) (by rfl)) (fun _ _ _ _ _ => (pdg_name 4 sc_w_gap_rows.nd)) ?_ ?_ (by rfl)
    refine pdi_range1 T.b_range ?_
    refine pda_c ?_ pda_nil
    exact (pd_var 0)
    intro _ _ _ _ _
    exact (pdts_nil)
    intro _ _ _ _ _
    refine pd_op od_mod ?_ ?_
    refine pd_bt oc_int T.b_int (by decide +kernel) ?_
    refine pda_c ?_ pda_nil
    refine pd_op od_mul ?_ ?_
    exact (pd_var 1)
    exact (pd_var 4)
    exact (pd_var 2)
    refine pds_cons ?_ ?_
    refine pds_set (i := 5) ?_ sc_w_gap_rows.nd
    refine pd_op od_cat ?_ ?_
    refine pd_lc ?_ sc_w_gap_rows.nd (blkOk_by (own := [("_law_k", 4)]) (by rfl)) (fun _ _ _ _ _ => (pdg_name 4 sc_w_gap_rows.nd)) ?_ ?_ (by rfl)
    refine pdi_range1 T.b_range ?_
    refine pda_c ?_ pda_nil
    refine pd_op od_sub ?_ pd_int
    refine pd_bc oc_len T.b_len (by decide +kernel) ?_
    refine pda_c ?_ pda_nil
    exact (pd_var 3)
    intro _ _ _ _ _
    exact (pdts_nil)
    intro _ _ _ _ _
    refine pd_bt oc_int T.b_int (by decide +kernel) ?_
    refine pda_c ?_ pda_nil
    refine pd_op od_sub ?_ ?_
    refine pd_ix ?_ ?_
    exact (pd_var 3)
    refine pd_op od_add ?_ pd_int
    exact (pd_var 4)
    refine pd_ix ?_ ?_
    exact (pd_var 3)
    exact (pd_var 4)
    refine pd_lst ?_
    refine pda_c ?_ pda_nil
    refine pd_bt oc_int T.b_int (by decide +kernel) ?_
    refine pda_c ?_ pda_nil
    refine pd_op od_sub ?_ ?_
    refine pd_op od_add ?_ ?_
    refine pd_ix ?_ pd_int
    exact (pd_var 3)
    exact (pd_var 2)
    refine pd_ix ?_ ?_
    exact (pd_var 3)
    exact (pd_negI pd_int)
    refine pds_one ?_
    refine pds_ret ?_
    refine pd_lc ?_ sc_w_gap_rows.nd (blkOk_by (own := [("_law_width", 6)]) (by rfl)) (fun _ _ _ _ _ => (pdg_name 6 sc_w_gap_rows.nd)) ?_ ?_ (by rfl)
    refine pdi_list ?_
    refine pd_sortSet ?_ (by rfl) T.b_sorted T.b_set
    exact (pd_var 5)
    intro _ _ _ _ _
    exact (pdts_nil)
    intro _ _ _ _ _
    refine pd_tup ?_
    refine pda_c ?_ ?_
    exact (pd_var 6)
    refine pda_c ?_ pda_nil
    refine pd_count ?_ ?_
    exact (pd_var 5)
    refine pda_c ?_ pda_nil
    exact (pd_var 6))

theorem ft_w_gap_rows_3 (T : Txt K mg c) : FT P w K mg base 1 "_law_gap_rows" (padF 3 [] (F_w_gap_rows c)) := by
  obtain ⟨f, fd, hm, FD⟩ := T.fn_w_gap_rows
  exact ⟨f, fd, _, _, _, hm, FD.kp, ok_w_gap_rows T FD, (Bd.nil (FD.bindsN (fun _ _ _ _ _ _ us hl => match us, hl with | [_, _, _], _ => rfl))), rfl⟩

theorem ok_is_whole (T : Txt K mg c) {f : Addr} {fd : FuncData} (FD : FunD K "is_whole" "is_whole" (defArgs s_is_whole) (defBody s_is_whole) (defScope s_is_whole) [] [] f fd) : FnD P w K mg base 1 f fd ["value"] (F_is_whole c) := fnD_of (N := ["value"]) FD sc_is_whole (fun cdv A outer s H E hr => by
    refine pds_one ?_
    refine pds_ret ?_
    refine pd_and ?_ ?_
    refine pd_isi ?_ (ClsV.ty _) (pd_bltn (v := .ty "int") (u := .type "int") T.b_int (by decide +kernel) rfl) T.ans_int T.b_isinstance
    exact (pd_var 0)
    refine pd_one ?_
    refine pd_not ?_
    refine pd_isi ?_ (ClsV.ty _) (pd_bltn (v := .ty "bool") (u := .type "bool") T.b_bool (by decide +kernel) rfl) T.ans_bool T.b_isinstance
    exact (pd_var 0))

theorem ft_is_whole_1 (T : Txt K mg c) : FT P w K mg base 1 "is_whole" (padF 1 [] (F_is_whole c)) := by
  obtain ⟨f, fd, hm, FD⟩ := T.fn_is_whole
  exact ⟨f, fd, _, _, _, hm, FD.kp, ok_is_whole T FD, (Bd.nil (FD.bindsN (fun _ _ _ _ _ _ us hl => match us, hl with | [_], _ => rfl))), rfl⟩

theorem ok_is_number (T : Txt K mg c) {f : Addr} {fd : FuncData} (FD : FunD K "is_number" "is_number" (defArgs s_is_number) (defBody s_is_number) (defScope s_is_number) [.int 0, .non] [] f fd) : FnD P w K mg base 2 f fd ["value", "least", "most"] (F_is_number c) := fnD_of (N := ["value", "least", "most"]) FD sc_is_number (fun cdv A outer s H E hr => by
    refine pds_cons ?_ ?_
    refine pds_if ?_ ?_ pds_nil
    refine PDW.pt ?_
    refine pdw_or ?_ ?_
    refine pdt_not ?_
    refine pdt_val ?_
    refine pd_fun (ft_is_whole_1 T) (hr.mono (by decide)) ?_
    refine pda_c ?_ pda_nil
    exact (pd_var 0)
    refine pdw_or1 ?_
    refine pdt_cmp od_lt ?_ ?_
    exact (pd_var 0)
    exact (pd_var 1)
    refine pds_one ?_
    exact (pds_ret pd_bl)
    refine pds_one ?_
    refine pds_ret ?_
    refine pd_or ?_ ?_
    refine pd_cmp od_isN ?_ pd_non
    exact (pd_var 2)
    refine pd_one ?_
    refine pd_cmp od_le ?_ ?_
    exact (pd_var 0)
    exact (pd_var 2))

theorem ft_is_number_3 (T : Txt K mg c) : FT P w K mg base 2 "is_number" (padF 3 [] (F_is_number c)) := by
  obtain ⟨f, fd, hm, FD⟩ := T.fn_is_number
  exact ⟨f, fd, _, _, _, hm, FD.kp, ok_is_number T FD, (bd_of (FD.binds1 3 2 (by simp) rfl (fun _ _ _ _ _ _ _ us its l1 l2 => match us, its, l1, l2 with | [_, _, _], [_, _], _, _ => ⟨_, rfl, rfl⟩)) (fun _ _ => .nil)), rfl⟩

theorem ok_is_ratio (T : Txt K mg c) {f : Addr} {fd : FuncData} (FD : FunD K "is_ratio" "is_ratio" (defArgs s_is_ratio) (defBody s_is_ratio) (defScope s_is_ratio) [] [] f fd) : FnD P w K mg base 1 f fd ["value"] (F_is_ratio c) := fnD_of (N := ["value"]) FD sc_is_ratio (fun cdv A outer s H E hr => by
    refine pds_one ?_
    refine pds_ret ?_
    refine pd_isi ?_ (ClsV.own _) (pd_glob (RepA.val _) T.gc_Ratio rfl) T.ans_Ratio__Ratio T.b_isinstance
    exact (pd_var 0))

theorem ft_is_ratio_1 (T : Txt K mg c) : FT P w K mg base 1 "is_ratio" (padF 1 [] (F_is_ratio c)) := by
  obtain ⟨f, fd, hm, FD⟩ := T.fn_is_ratio
  exact ⟨f, fd, _, _, _, hm, FD.kp, ok_is_ratio T FD, (Bd.nil (FD.bindsN (fun _ _ _ _ _ _ us hl => match us, hl with | [_], _ => rfl))), rfl⟩

theorem ok_need_ratio (T : Txt K mg c) {f : Addr} {fd : FuncData} (FD : FunD K "need_ratio" "need_ratio" (defArgs s_need_ratio) (defBody s_need_ratio) (defScope s_need_ratio) [] [] f fd) : FnD P w K mg base 2 f fd ["value"] (F_need_ratio c) := fnD_of (N := ["value"]) FD sc_need_ratio (fun cdv A outer s H E hr => by
    refine pds_one ?_
    refine pds_if ?_ ?_ pds_nil
    refine pdt_not ?_
    refine pdt_val ?_
    refine pd_fun (ft_is_ratio_1 T) (hr.mono (by decide)) ?_
    refine pda_c ?_ pda_nil
    exact (pd_var 0)
    exact (pds_one pds_stuck))

theorem ft_need_ratio_1 (T : Txt K mg c) : FT P w K mg base 2 "need_ratio" (padF 1 [] (F_need_ratio c)) := by
  obtain ⟨f, fd, hm, FD⟩ := T.fn_need_ratio
  exact ⟨f, fd, _, _, _, hm, FD.kp, ok_need_ratio T FD, (Bd.nil (FD.bindsN (fun _ _ _ _ _ _ us hl => match us, hl with | [_], _ => rfl))), rfl⟩

theorem ok_Ratio_bottom (T : Txt K mg c) {f : Addr} {fd : FuncData} (FD : FunD K "bottom" "Ratio.bottom" (defArgs s_Ratio_bottom) (defBody s_Ratio_bottom) (defScope s_Ratio_bottom) [] [] f fd) : FnD P w K mg base 1 f fd ["self"] (F_Ratio_bottom c) := fnD_of (N := ["self"]) FD sc_Ratio_bottom (fun cdv A outer s H E hr => by
    refine pds_one ?_
    refine pds_ret ?_
    refine pd_fld ?_ (by intro r hr; simp only [List.mem_cons, List.not_mem_nil, or_false] at hr; subst hr; exact T.fl_Ratio_own_bottom)
    exact (pd_var 0))

theorem po_Ratio_Ratio_bottom (T : Txt K mg c) {k : Nat} (hk : 1 ≤ k) : PropOk P w K mg base k "bottom" c.kRatio (padF 1 [] (F_Ratio_bottom c)) := by
  obtain ⟨pp, g, fd, h0, FD⟩ := T.pr_Ratio_bottom
  exact ⟨T.cl_Ratio, pp, g, fd, _, _, h0, (ok_Ratio_bottom T FD).mono hk, (Bd.nil (FD.bindsN (fun _ _ _ _ _ _ us hl => match us, hl with | [_], _ => rfl))), rfl⟩

theorem ok_common_divisor (T : Txt K mg c) {f : Addr} {fd : FuncData} (FD : FunD K "common_divisor" "common_divisor" (defArgs s_common_divisor) (defBody s_common_divisor) (defScope s_common_divisor) [] [] f fd) : FnD P w K mg base 2 f fd ["one", "other"] (F_common_divisor c) := fnD_of (N := ["one", "other"]) FD sc_common_divisor (fun cdv A outer s H E hr => by
    refine pds_cons ?_ ?_
    refine pds_while ?_ ?_ (passes_of rfl)
    refine pdt_cmp (od_ne hr.units) ?_ pd_int
    exact (pd_var 1)
    refine pds_one ?_
    refine pds_par (i := 0) (j := 1) ?_ (by rfl) sc_common_divisor.nd
    refine pda_c ?_ ?_
    exact (pd_var 1)
    refine pda_c ?_ pda_nil
    refine pd_op od_mod ?_ ?_
    exact (pd_var 0)
    exact (pd_var 1)
    refine pds_one ?_
    refine pds_ret ?_
    exact (pd_var 0))

theorem ft_common_divisor_2 (T : Txt K mg c) : FT P w K mg base 2 "common_divisor" (padF 2 [] (F_common_divisor c)) := by
  obtain ⟨f, fd, hm, FD⟩ := T.fn_common_divisor
  exact ⟨f, fd, _, _, _, hm, FD.kp, ok_common_divisor T FD, (Bd.nil (FD.bindsN (fun _ _ _ _ _ _ us hl => match us, hl with | [_, _], _ => rfl))), rfl⟩

theorem ok_RatioD_initD (T : Txt K mg c) {f : Addr} {fd : FuncData} (FD : FunD K "__init__" "Ratio.__init__" (defArgs s_RatioD_initD) (defBody s_RatioD_initD) (defScope s_RatioD_initD) [.int 1] [] f fd) : FnD P w K mg base 3 f fd ["self", "top", "bottom"] (F_RatioD_initD c) := fnD_of (N := ["self", "top", "bottom", "divisor"]) FD sc_RatioD_initD (fun cdv A outer s H E hr => by
    refine pds_cons ?_ ?_
    refine pds_if ?_ ?_ pds_nil
    refine PDW.pt ?_
    refine pdw_or ?_ ?_
    refine pdt_not ?_
    refine pdt_val ?_
    refine pd_fun (ft_is_whole_1 T) (hr.mono (by decide)) ?_
    refine pda_c ?_ pda_nil
    exact (pd_var 1)
    refine pdw_or ?_ ?_
    refine pdt_not ?_
    refine pdt_val ?_
    refine pd_fun (ft_is_whole_1 T) (hr.mono (by decide)) ?_
    refine pda_c ?_ pda_nil
    exact (pd_var 2)
    refine pdw_or1 ?_
    refine pdt_cmp (od_eq hr.units) ?_ pd_int
    exact (pd_var 2)
    exact (pds_one pds_stuck)
    refine pds_cons ?_ ?_
    refine pds_set (i := 3) ?_ sc_RatioD_initD.nd
    refine pd_fun (ft_common_divisor_2 T) (hr.mono (by decide)) ?_
    refine pda_c ?_ ?_
    refine pd_bc oc_abs T.b_abs (by decide +kernel) ?_
    refine pda_c ?_ pda_nil
    exact (pd_var 1)
    refine pda_c ?_ pda_nil
    refine pd_bc oc_abs T.b_abs (by decide +kernel) ?_
    refine pda_c ?_ pda_nil
    exact (pd_var 2)
    refine pds_cons ?_ ?_
    refine pds_set (i := 3) ?_ sc_RatioD_initD.nd
    refine pd_if ?_ ?_ ?_
    refine pdt_cmp od_lt ?_ pd_int
    exact (pd_var 2)
    refine pd_negI ?_
    exact (pd_var 3)
    exact (pd_var 3)
    refine pds_cons ?_ ?_
    refine pds_putF ?_ ?_ (by intro C hC; simp only [List.mem_cons, List.not_mem_nil, or_false] at hC; subst hC; exact ⟨T.cl_Ratio, T.fl_Ratio_own_top.no⟩)
    refine pd_op od_div ?_ ?_
    exact (pd_var 1)
    exact (pd_var 3)
    exact (pd_var 0)
    refine pds_one ?_
    refine pds_putF ?_ ?_ (by intro C hC; simp only [List.mem_cons, List.not_mem_nil, or_false] at hC; subst hC; exact ⟨T.cl_Ratio, T.fl_Ratio_own_bottom.no⟩)
    refine pd_op od_div ?_ ?_
    exact (pd_var 2)
    exact (pd_var 3)
    exact (pd_var 0))

theorem kt_Ratio_1 (T : Txt K mg c) : KT P w K mg base 3 "Ratio" c.cRatio (padF 3 [.int 1] (F_RatioD_initD c)) := by
  obtain ⟨f, fd, h0, hf, FD⟩ := T.me_RatioD_initD
  exact ⟨T.gc_Ratio, f, fd, _, _, _, ⟨T.mk_Ratio.1, h0, hf, T.mk_Ratio.2⟩, ok_RatioD_initD T FD, (bd_of (FD.binds1 2 0 (by simp) rfl (fun _ _ _ _ _ _ _ us its l1 l2 => match us, its, l1, l2 with | [_, _], [_], _, _ => ⟨_, rfl, rfl⟩)) (fun _ _ => .cons (.int _) .nil)), rfl⟩

theorem kt_Ratio_2 (T : Txt K mg c) : KT P w K mg base 3 "Ratio" c.cRatio (padF 3 [] (F_RatioD_initD c)) := by
  obtain ⟨f, fd, h0, hf, FD⟩ := T.me_RatioD_initD
  exact ⟨T.gc_Ratio, f, fd, _, _, _, ⟨T.mk_Ratio.1, h0, hf, T.mk_Ratio.2⟩, ok_RatioD_initD T FD, (bd_of (FD.binds1 3 1 (by simp) rfl (fun _ _ _ _ _ _ _ us its l1 l2 => match us, its, l1, l2 with | [_, _, _], [_], _, _ => ⟨_, rfl, rfl⟩)) (fun _ _ => .nil)), rfl⟩

theorem ok_Ratio_moment (T : Txt K mg c) {f : Addr} {fd : FuncData} (FD : FunD K "moment" "Ratio.moment" (defArgs s_Ratio_moment) (defBody s_Ratio_moment) (defScope s_Ratio_moment) [] [] f fd) : FnD P w K mg base 5 f fd ["self"] (F_Ratio_moment c) := fnD_of (N := ["self"]) FD sc_Ratio_moment (fun cdv A outer s H E hr => by
    refine pds_one ?_
    refine pds_ret ?_
    refine pd_make (k := 3) (kt_Ratio_2 T) (hr.mono (by decide)) ?_
    refine pda_c ?_ ?_
    refine pd_op od_mod ?_ ?_
    refine pd_fld ?_ (by intro r hr; simp only [List.mem_cons, List.not_mem_nil, or_false] at hr; subst hr; exact T.fl_Ratio_own_top)
    exact (pd_var 0)
    refine pd_fld ?_ (by intro r hr; simp only [List.mem_cons, List.not_mem_nil, or_false] at hr; subst hr; exact T.fl_Ratio_own_bottom)
    exact (pd_var 0)
    refine pda_c ?_ pda_nil
    refine pd_fld ?_ (by intro r hr; simp only [List.mem_cons, List.not_mem_nil, or_false] at hr; subst hr; exact T.fl_Ratio_own_bottom)
    exact (pd_var 0))

theorem mt_Ratio_Ratio_moment_1 (T : Txt K mg c) : MT P w K mg base 5 "moment" c.cRatio (padF 1 [] (F_Ratio_moment c)) := by
  obtain ⟨f, fd, h0, hf, FD⟩ := T.me_Ratio_moment
  exact ⟨f, fd, _, _, _, h0, hf, FD.kp, ok_Ratio_moment T FD, (Bd.nil (FD.bindsN (fun _ _ _ _ _ _ us hl => match us, hl with | [_], _ => rfl))), rfl⟩

theorem mo_Ratio_Ratio_moment_1 (T : Txt K mg c) {k : Nat} (hk : 5 ≤ k) : MethOk P w K mg base k "moment" c.kRatio (padF 1 [] (F_Ratio_moment c)) := ⟨T.cl_Ratio, (mt_Ratio_Ratio_moment_1 T).mono hk, (show ("moment" : Str) ∉ nsRatio from by decide +kernel)⟩

theorem ok_Ratio_top (T : Txt K mg c) {f : Addr} {fd : FuncData} (FD : FunD K "top" "Ratio.top" (defArgs s_Ratio_top) (defBody s_Ratio_top) (defScope s_Ratio_top) [] [] f fd) : FnD P w K mg base 1 f fd ["self"] (F_Ratio_top c) := fnD_of (N := ["self"]) FD sc_Ratio_top (fun cdv A outer s H E hr => by
    refine pds_one ?_
    refine pds_ret ?_
    refine pd_fld ?_ (by intro r hr; simp only [List.mem_cons, List.not_mem_nil, or_false] at hr; subst hr; exact T.fl_Ratio_own_top)
    exact (pd_var 0))

theorem po_Ratio_Ratio_top (T : Txt K mg c) {k : Nat} (hk : 1 ≤ k) : PropOk P w K mg base k "top" c.kRatio (padF 1 [] (F_Ratio_top c)) := by
  obtain ⟨pp, g, fd, h0, FD⟩ := T.pr_Ratio_top
  exact ⟨T.cl_Ratio, pp, g, fd, _, _, h0, (ok_Ratio_top T FD).mono hk, (Bd.nil (FD.bindsN (fun _ _ _ _ _ _ us hl => match us, hl with | [_], _ => rfl))), rfl⟩

theorem ok_nearest_steps (T : Txt K mg c) {f : Addr} {fd : FuncData} (FD : FunD K "nearest_steps" "nearest_steps" (defArgs s_nearest_steps) (defBody s_nearest_steps) (defScope s_nearest_steps) [] [] f fd) : FnD P w K mg base 1 f fd ["count", "top", "bottom"] (F_nearest_steps c) := fnD_of (N := ["count", "top", "bottom", "behind", "ahead", "right", "left", "times"]) FD sc_nearest_steps (fun cdv A outer s H E hr => by
    refine pds_cons ?_ ?_
    refine pds_asg ?_ (pdg_tup (n := 4) (by rfl) (pdgs_cons (pdg_name 3 sc_nearest_steps.nd) (pdgs_cons (pdg_name 4 sc_nearest_steps.nd) (pdgs_cons (pdg_name 5 sc_nearest_steps.nd) (pdgs_cons (pdg_name 6 sc_nearest_steps.nd) pdgs_nil)))))
    refine pd_tup ?_
    refine pda_int ?_
    refine pda_int ?_
    refine pda_c ?_ ?_
    exact (pd_var 1)
    refine pda_c ?_ pda_nil
    refine pd_op od_sub ?_ ?_
    exact (pd_var 2)
    exact (pd_var 1)
    refine pds_cons ?_ ?_
    refine pds_while ?_ ?_ (passes_of rfl)
    refine pdt_cmp od_lt ?_ ?_
    refine pd_op od_add ?_ ?_
    exact (pd_var 3)
    exact (pd_var 4)
    exact (pd_var 0)
    refine pds_one ?_
    refine pds_if ?_ ?_ ?_
    refine pdt_cmp od_gt ?_ ?_
    exact (pd_var 5)
    exact (pd_var 6)
    refine pds_cons ?_ ?_
    refine pds_set (i := 7) ?_ sc_nearest_steps.nd
    refine pd_bc (oc_min2 (by rfl)) T.b_min (by decide +kernel) ?_
    refine pda_c ?_ ?_
    refine pd_bt oc_int T.b_int (by decide +kernel) ?_
    refine pda_c ?_ pda_nil
    refine pd_op od_div ?_ ?_
    refine pd_op od_sub ?_ pd_int
    exact (pd_var 5)
    exact (pd_var 6)
    refine pda_c ?_ pda_nil
    refine pd_bt oc_int T.b_int (by decide +kernel) ?_
    refine pda_c ?_ pda_nil
    refine pd_op od_div ?_ ?_
    refine pd_op od_sub ?_ ?_
    refine pd_op od_sub ?_ pd_int
    exact (pd_var 0)
    exact (pd_var 3)
    exact (pd_var 4)
    refine pds_one ?_
    refine pds_par (i := 3) (j := 5) ?_ (by rfl) sc_nearest_steps.nd
    refine pda_c ?_ ?_
    refine pd_op od_add ?_ ?_
    exact (pd_var 3)
    refine pd_op od_mul ?_ ?_
    exact (pd_var 7)
    exact (pd_var 4)
    refine pda_c ?_ pda_nil
    refine pd_op od_sub ?_ ?_
    exact (pd_var 5)
    refine pd_op od_mul ?_ ?_
    exact (pd_var 7)
    exact (pd_var 6)
    refine pds_cons ?_ ?_
    refine pds_set (i := 7) ?_ sc_nearest_steps.nd
    refine pd_bc (oc_min2 (by rfl)) T.b_min (by decide +kernel) ?_
    refine pda_c ?_ ?_
    refine pd_bt oc_int T.b_int (by decide +kernel) ?_
    refine pda_c ?_ pda_nil
    refine pd_op od_div ?_ ?_
    refine pd_op od_sub ?_ pd_int
    exact (pd_var 6)
    exact (pd_var 5)
    refine pda_c ?_ pda_nil
    refine pd_bt oc_int T.b_int (by decide +kernel) ?_
    refine pda_c ?_ pda_nil
    refine pd_op od_div ?_ ?_
    refine pd_op od_sub ?_ ?_
    refine pd_op od_sub ?_ pd_int
    exact (pd_var 0)
    exact (pd_var 4)
    exact (pd_var 3)
    refine pds_one ?_
    refine pds_par (i := 4) (j := 6) ?_ (by rfl) sc_nearest_steps.nd
    refine pda_c ?_ ?_
    refine pd_op od_add ?_ ?_
    exact (pd_var 4)
    refine pd_op od_mul ?_ ?_
    exact (pd_var 7)
    exact (pd_var 3)
    refine pda_c ?_ pda_nil
    refine pd_op od_sub ?_ ?_
    exact (pd_var 6)
    refine pd_op od_mul ?_ ?_
    exact (pd_var 7)
    exact (pd_var 5)
    refine pds_one ?_
    refine pds_ret ?_
    refine pd_tup ?_
    refine pda_c ?_ ?_
    exact (pd_var 3)
    refine pda_c ?_ ?_
    exact (pd_var 4)
    refine pda_c ?_ ?_
    exact (pd_var 5)
    refine pda_c ?_ pda_nil
    exact (pd_var 6))

theorem ft_nearest_steps_3 (T : Txt K mg c) : FT P w K mg base 1 "nearest_steps" (padF 3 [] (F_nearest_steps c)) := by
  obtain ⟨f, fd, hm, FD⟩ := T.fn_nearest_steps
  exact ⟨f, fd, _, _, _, hm, FD.kp, ok_nearest_steps T FD, (Bd.nil (FD.bindsN (fun _ _ _ _ _ _ us hl => match us, hl with | [_, _, _], _ => rfl))), rfl⟩

theorem ok_gaps_between (T : Txt K mg c) {f : Addr} {fd : FuncData} (FD : FunD K "gaps_between" "gaps_between" (defArgs s_gaps_between) (defBody s_gaps_between) (defScope s_gaps_between) [] [] f fd) : FnD P w K mg base 6 f fd ["count", "step"] (F_gaps_between c) := fnD_of (N := ["count", "step", "top", "bottom", "behind", "ahead", "right", "left", "near", "rows", "width", "many"]) FD sc_gaps_between (fun cdv A outer s H E hr => by
    refine pds_cons ?_ ?_
    refine pds_asg ?_ (pdg_tup (n := 2) (by rfl) (pdgs_cons (pdg_name 2 sc_gaps_between.nd) (pdgs_cons (pdg_name 3 sc_gaps_between.nd) pdgs_nil)))
    refine pd_tup ?_
    refine pda_c ?_ ?_
    refine pd_prop (k := 1) ?_ (by intro r hr; simp only [List.mem_cons, List.not_mem_nil, or_false] at hr; subst hr; exact (po_Ratio_Ratio_top T (by decide))) (hr.mono (by decide))
    refine pd_meth0 (k := 5) ?_ (by intro r hr; simp only [List.mem_cons, List.not_mem_nil, or_false] at hr; subst hr; exact (mo_Ratio_Ratio_moment_1 T (by decide))) (hr.mono (by decide))
    exact (pd_var 1)
    refine pda_c ?_ pda_nil
    refine pd_prop (k := 1) ?_ (by intro r hr; simp only [List.mem_cons, List.not_mem_nil, or_false] at hr; subst hr; exact (po_Ratio_Ratio_bottom T (by decide))) (hr.mono (by decide))
    exact (pd_var 1)
    refine pds_cons ?_ ?_
    refine pds_if ?_ ?_ pds_nil
    refine pdt_cmp (od_eq hr.units) ?_ pd_int
    exact (pd_var 0)
    refine pds_one ?_
    refine pds_ret ?_
    refine pd_loc ?_
    refine pda_c ?_ pda_nil
    refine pd_tup ?_
    refine pda_c ?_ ?_
    refine pd_make (k := 3) (kt_Ratio_1 T) (hr.mono (by decide)) ?_
    exact (pda_int pda_nil)
    exact (pda_int pda_nil)
    refine pds_cons ?_ ?_
    refine pds_if ?_ ?_ pds_nil
    refine pdt_cmp od_ge ?_ ?_
    exact (pd_var 0)
    exact (pd_var 3)
    refine pds_one ?_
    refine pds_ret ?_
    refine pd_loc ?_
    refine pda_c ?_ pda_nil
    refine pd_tup ?_
    refine pda_c ?_ ?_
    refine pd_make (k := 3) (kt_Ratio_2 T) (hr.mono (by decide)) ?_
    refine pda_int ?_
    refine pda_c ?_ pda_nil
    exact (pd_var 3)
    refine pda_c ?_ pda_nil
    exact (pd_var 3)
    refine pds_cons ?_ ?_
    refine pds_asg ?_ (pdg_tup (n := 4) (by rfl) (pdgs_cons (pdg_name 4 sc_gaps_between.nd) (pdgs_cons (pdg_name 5 sc_gaps_between.nd) (pdgs_cons (pdg_name 6 sc_gaps_between.nd) (pdgs_cons (pdg_name 7 sc_gaps_between.nd) pdgs_nil)))))
    refine pd_fun (ft_nearest_steps_3 T) (hr.mono (by decide)) ?_
    refine pda_c ?_ ?_
    exact (pd_var 0)
    refine pda_c ?_ ?_
    exact (pd_var 2)
    refine pda_c ?_ pda_nil
    exact (pd_var 3)
    refine pds_cons ?_ ?_
    refine pds_set (i := 8) ?_ sc_gaps_between.nd
    refine pd_if ?_ ?_ ?_
    refine pdt_cmp (od_ne hr.units) ?_ ?_
    exact (pd_var 6)
    exact (pd_var 7)
    refine pd_lst ?_
    refine pda_c ?_ ?_
    refine pd_tup ?_
    refine pda_c ?_ ?_
    exact (pd_var 6)
    refine pda_c ?_ pda_nil
    refine pd_op od_sub ?_ ?_
    exact (pd_var 0)
    exact (pd_var 4)
    refine pda_c ?_ pda_nil
    refine pd_tup ?_
    refine pda_c ?_ ?_
    exact (pd_var 7)
    refine pda_c ?_ pda_nil
    refine pd_op od_sub ?_ ?_
    exact (pd_var 0)
    exact (pd_var 5)
    refine pd_lst ?_
    refine pda_c ?_ pda_nil
    refine pd_tup ?_
    refine pda_c ?_ ?_
    exact (pd_var 6)
    refine pda_c ?_ pda_nil
    refine pd_op od_sub ?_ ?_
    refine pd_op od_sub ?_ ?_
    refine pd_op od_mul pd_int ?_
    exact (pd_var 0)
    exact (pd_var 4)
    exact (pd_var 5)
    refine pds_cons ?_ ?_
    refine pds_set (i := 9) ?_ sc_gaps_between.nd
    refine pd_bc oc_sortP T.b_sorted (by decide +kernel) ?_
    refine pda_c ?_ pda_nil
    refine pd_lst ?_
    refine pda_star ?_ ?_
    exact (pd_var 8)
    refine pda_c ?_ pda_nil
    refine pd_tup ?_
    refine pda_c ?_ ?_
    refine pd_op od_add ?_ ?_
    exact (pd_var 6)
    exact (pd_var 7)
    refine pda_c ?_ pda_nil
    refine pd_op od_sub ?_ ?_
    refine pd_op od_add ?_ ?_
    exact (pd_var 4)
    exact (pd_var 5)
    exact (pd_var 0)
    refine pds_one ?_
    refine pds_ret ?_
    refine pd_lcM ?_ sc_gaps_between.nd (blkOk_by (own := [("width", 10), ("many", 11)]) (by rfl)) (fun _ _ _ _ _ => (pdg_tup (n := 2) (by rfl) (pdgs_cons (pdg_name 10 sc_gaps_between.nd) (pdgs_cons (pdg_name 11 sc_gaps_between.nd) pdgs_nil)))) ?_ ?_ (by rfl)
    refine pdi_list ?_
    exact (pd_var 9)
    intro _ _ _ _ _
    refine pdts_one ?_
    refine pdt_cmp od_gt ?_ pd_int
    exact (pd_var 11)
    intro _ _ _ _ _
    refine pd_tup ?_
    refine pda_c ?_ ?_
    refine pd_make (k := 3) (kt_Ratio_2 T) (hr.mono (by decide)) ?_
    refine pda_c ?_ ?_
    exact (pd_var 10)
    refine pda_c ?_ pda_nil
    exact (pd_var 3)
    refine pda_c ?_ pda_nil
    exact (pd_var 11))

theorem ft_gaps_between_2 (T : Txt K mg c) : FT P w K mg base 6 "gaps_between" (padF 2 [] (F_gaps_between c)) := by
  obtain ⟨f, fd, hm, FD⟩ := T.fn_gaps_between
  exact ⟨f, fd, _, _, _, hm, FD.kp, ok_gaps_between T FD, (Bd.nil (FD.bindsN (fun _ _ _ _ _ _ us hl => match us, hl with | [_, _], _ => rfl))), rfl⟩

theorem ok_gap_widths (T : Txt K mg c) {f : Addr} {fd : FuncData} (FD : FunD K "gap_widths" "gap_widths" (defArgs s_gap_widths) (defBody s_gap_widths) (defScope s_gap_widths) [] [] f fd) : FnD P w K mg base 7 f fd ["count", "step"] (F_gap_widths c) := fnD_of (N := ["count", "step"]) FD sc_gap_widths (fun cdv A outer s H E hr => by
    refine pds_cons ?_ ?_
    refine pds_if ?_ ?_ pds_nil
    refine pdt_not ?_
    refine pdt_val ?_
    refine pd_fun (ft_is_number_3 T) (hr.mono (by decide)) ?_
    refine pda_c ?_ ?_
    exact (pd_var 0)
    refine pda_int ?_
    exact (pda_c (let ⟨t, h⟩ := T.g_MOST_COUNT; pd_glob (RepA.int _) h ⟨t, rfl⟩) pda_nil)
    exact (pds_one pds_stuck)
    refine pds_cons ?_ ?_
    refine pds_expr ?_
    refine pd_fun (ft_need_ratio_1 T) (hr.mono (by decide)) ?_
    refine pda_c ?_ pda_nil
    exact (pd_var 1)
    refine pds_one ?_
    refine pds_ret ?_
    refine pd_fun (ft_gaps_between_2 T) (hr.mono (by decide)) ?_
    refine pda_c ?_ ?_
    exact (pd_var 0)
    refine pda_c ?_ pda_nil
    exact (pd_var 1))

theorem ft_gap_widths_2 (T : Txt K mg c) : FT P w K mg base 7 "gap_widths" (padF 2 [] (F_gap_widths c)) := by
  obtain ⟨f, fd, hm, FD⟩ := T.fn_gap_widths
  exact ⟨f, fd, _, _, _, hm, FD.kp, ok_gap_widths T FD, (Bd.nil (FD.bindsN (fun _ _ _ _ _ _ us hl => match us, hl with | [_, _], _ => rfl))), rfl⟩

theorem ftk_gap_widths_1_step (T : Txt K mg c) : FTK P w K mg base 7 "gap_widths" 1 ["step"] (GK_gap_widths_1_step c) := by
  obtain ⟨f, fd, hm, FD⟩ := T.fn_gap_widths
  have hok := ok_gap_widths (P := P) (w := w) (base := base) T FD
  have hkp := FD.kp
  obtain ⟨oc, od, dV, kV, doc, pm, an, cdv, ct, osl, rfl, lk, hcd, hD, hK⟩ := FD.ex
  obtain rfl := dfl_nil hD
  exact ⟨f, _, _, [0, 1], [], _, hm, hkp, hok, ⟨[], [], .nil, fun _ _ => .nil, fun s us ws _ l1 l2 => match us, ws, l1, l2 with | [_], [_], _, _ => ⟨.of_eq rfl, rfl⟩⟩, rfl⟩

theorem ok_w_divisor (T : Txt K mg c) {f : Addr} {fd : FuncData} (FD : FunD K "_law_divisor" "_law_divisor" (defArgs s_w_divisor) (defBody s_w_divisor) (defScope s_w_divisor) [] [] f fd) : FnD P w K mg base 1 f fd ["_law_a", "_law_b"] (F_w_divisor c) := fnD_of (N := ["_law_a", "_law_b"]) FD sc_w_divisor (fun cdv A outer s H E hr => by
    refine pds_cons ?_ ?_
    refine pds_while ?_ ?_ (passes_of rfl)
    refine pdt_cmp od_gt ?_ pd_int
    exact (pd_var 1)
    refine pds_one ?_
    refine pds_par (i := 0) (j := 1) ?_ (by rfl) sc_w_divisor.nd
    refine pda_c ?_ ?_
    exact (pd_var 1)
    refine pda_c ?_ pda_nil
    refine pd_op od_mod ?_ ?_
    refine pd_bt oc_int T.b_int (by decide +kernel) ?_
    refine pda_c ?_ pda_nil
    exact (pd_var 0)
    exact (pd_var 1)
    refine pds_one ?_
    refine pds_ret ?_
    exact (pd_var 0))

theorem ft_w_divisor_2 (T : Txt K mg c) : FT P w K mg base 1 "_law_divisor" (padF 2 [] (F_w_divisor c)) := by
  obtain ⟨f, fd, hm, FD⟩ := T.fn_w_divisor
  exact ⟨f, fd, _, _, _, hm, FD.kp, ok_w_divisor T FD, (Bd.nil (FD.bindsN (fun _ _ _ _ _ _ us hl => match us, hl with | [_, _], _ => rfl))), rfl⟩

theorem ok_w_frac (T : Txt K mg c) {f : Addr} {fd : FuncData} (FD : FunD K "_law_frac" "_law_frac" (defArgs s_w_frac) (defBody s_w_frac) (defScope s_w_frac) [] [] f fd) : FnD P w K mg base 2 f fd ["_law_a", "_law_b"] (F_w_frac c) := fnD_of (N := ["_law_a", "_law_b", "_law_by"]) FD sc_w_frac (fun cdv A outer s H E hr => by
    refine pds_cons ?_ ?_
    refine pds_set (i := 2) ?_ sc_w_frac.nd
    refine pd_fun (ft_w_divisor_2 T) (hr.mono (by decide)) ?_
    refine pda_c ?_ ?_
    refine pd_bc oc_abs T.b_abs (by decide +kernel) ?_
    refine pda_c ?_ pda_nil
    exact (pd_var 0)
    refine pda_c ?_ pda_nil
    refine pd_bc oc_abs T.b_abs (by decide +kernel) ?_
    refine pda_c ?_ pda_nil
    exact (pd_var 1)
    refine pds_cons ?_ ?_
    refine pds_set (i := 2) ?_ sc_w_frac.nd
    refine pd_if ?_ ?_ ?_
    refine pdt_cmp od_gt ?_ pd_int
    exact (pd_var 1)
    exact (pd_var 2)
    refine pd_op od_sub pd_int ?_
    exact (pd_var 2)
    refine pds_one ?_
    refine pds_ret ?_
    refine pd_tup ?_
    refine pda_c ?_ ?_
    refine pd_op od_div ?_ ?_
    exact (pd_var 0)
    exact (pd_var 2)
    refine pda_c ?_ pda_nil
    refine pd_op od_div ?_ ?_
    exact (pd_var 1)
    exact (pd_var 2))

theorem ft_w_frac_2 (T : Txt K mg c) : FT P w K mg base 2 "_law_frac" (padF 2 [] (F_w_frac c)) := by
  obtain ⟨f, fd, hm, FD⟩ := T.fn_w_frac
  exact ⟨f, fd, _, _, _, hm, FD.kp, ok_w_frac T FD, (Bd.nil (FD.bindsN (fun _ _ _ _ _ _ us hl => match us, hl with | [_, _], _ => rfl))), rfl⟩

theorem ok_w_parts (T : Txt K mg c) {f : Addr} {fd : FuncData} (FD : FunD K "_law_parts" "_law_parts" (defArgs s_w_parts) (defBody s_w_parts) (defScope s_w_parts) [] [] f fd) : FnD P w K mg base 3 f fd ["_law_found"] (F_w_parts c) := fnD_of (N := ["_law_found"]) FD sc_w_parts (fun cdv A outer s H E hr => by
    refine pds_one ?_
    refine pds_ret ?_
    refine pd_if ?_ ?_ pd_non
    refine pdt_val ?_
    refine pd_isi ?_ (ClsV.own _) (pd_glob (RepA.val _) T.gc_Ratio rfl) T.ans_Ratio__Ratio T.b_isinstance
    exact (pd_var 0)
    refine pd_tup ?_
    refine pda_c ?_ ?_
    refine pd_prop (k := 1) ?_ (by intro r hr; simp only [List.mem_cons, List.not_mem_nil, or_false] at hr; subst hr; exact (po_Ratio_Ratio_top T (by decide))) (hr.mono (by decide))
    exact (pd_var 0)
    refine pda_c ?_ pda_nil
    refine pd_prop (k := 1) ?_ (by intro r hr; simp only [List.mem_cons, List.not_mem_nil, or_false] at hr; subst hr; exact (po_Ratio_Ratio_bottom T (by decide))) (hr.mono (by decide))
    exact (pd_var 0))

theorem ft_w_parts_1 (T : Txt K mg c) : FT P w K mg base 3 "_law_parts" (padF 1 [] (F_w_parts c)) := by
  obtain ⟨f, fd, hm, FD⟩ := T.fn_w_parts
  exact ⟨f, fd, _, _, _, hm, FD.kp, ok_w_parts T FD, (Bd.nil (FD.bindsN (fun _ _ _ _ _ _ us hl => match us, hl with | [_], _ => rfl))), rfl⟩

theorem ft_w_like_2 (T : Txt K mg c) : ∀ n : Nat, FT P w K mg base (n + 2) "_law_like" (padF 2 [] (F_w_like c n))
  | 0 => by
    obtain ⟨f, fd, hm, FD⟩ := T.fn_w_like
    exact ⟨f, fd, ["_law_found", "_law_due"], [], F_w_like c 0, hm, FD.kp, FnOk.mono (fnD_none FD sc_w_like) (by omega), (Bd.nil (FD.bindsN (fun _ _ _ _ _ _ us hl => match us, hl with | [_, _], _ => rfl))), rfl⟩
  | n + 1 => by
    have ih := ft_w_like_2 T n
    obtain ⟨f, fd, hm, FD⟩ := T.fn_w_like
    exact ⟨f, fd, ["_law_found", "_law_due"], [], F_w_like c (n + 1), hm, FD.kp, fnD_of (k := n + 2) FD sc_w_like (fun cdv A outer s H E hr => by
      refine pds_cons ?_ ?_
      refine pds_if ?_ ?_ pds_nil
      refine PDW.pt ?_
      refine pdw_or ?_ ?_
      refine pdt_cmp od_isN ?_ pd_non
      exact (pd_var 1)
      refine pdw_or1 ?_
      refine pdt_cmp od_isN ?_ pd_non
      exact (pd_var 0)
      refine pds_one ?_
      refine pds_ret ?_
      refine pd_and ?_ ?_
      refine pd_cmp od_isN ?_ pd_non
      exact (pd_var 1)
      refine pd_one ?_
      refine pd_cmp od_isN ?_ pd_non
      exact (pd_var 0)
      refine pds_cons ?_ ?_
      refine pds_if ?_ ?_ pds_nil
      refine pdt_val ?_
      refine pd_isiT ?_ (.cons (ClsV.ty _) (.cons (ClsV.ty _) .nil)) (pda_c (pd_bltn (v := .ty "list") (u := .type "list") T.b_list (by decide +kernel) rfl) (pda_c (pd_bltn (v := .ty "tuple") (u := .type "tuple") T.b_tuple (by decide +kernel) rfl) pda_nil)) (by decide) T.ans_list_tuple T.b_isinstance
      exact (pd_var 1)
      refine pds_cons ?_ ?_
      refine pds_if ?_ ?_ pds_nil
      refine PDW.pt ?_
      refine pdw_or ?_ ?_
      refine pdt_cmp (od_ne hr.units) ?_ ?_
      refine pd_isi ?_ (ClsV.ty _) (pd_bltn (v := .ty "list") (u := .type "list") T.b_list (by decide +kernel) rfl) T.ans_list T.b_isinstance
      exact (pd_var 0)
      refine pd_isi ?_ (ClsV.ty _) (pd_bltn (v := .ty "list") (u := .type "list") T.b_list (by decide +kernel) rfl) T.ans_list T.b_isinstance
      exact (pd_var 1)
      refine pdw_or1 ?_
      refine pdt_cmp (od_ne hr.units) ?_ ?_
      refine pd_isi ?_ (ClsV.ty _) (pd_bltn (v := .ty "tuple") (u := .type "tuple") T.b_tuple (by decide +kernel) rfl) T.ans_tuple T.b_isinstance
      exact (pd_var 0)
      refine pd_isi ?_ (ClsV.ty _) (pd_bltn (v := .ty "tuple") (u := .type "tuple") T.b_tuple (by decide +kernel) rfl) T.ans_tuple T.b_isinstance
      exact (pd_var 1)
      refine pds_one ?_
      exact (pds_ret pd_bl)
      refine pds_one ?_
      refine pds_ret ?_
      refine pd_and ?_ ?_
      refine pd_cmp (od_eq hr.units) ?_ ?_
      refine pd_bc oc_len T.b_len (by decide +kernel) ?_
      refine pda_c ?_ pda_nil
      exact (pd_var 0)
      refine pd_bc oc_len T.b_len (by decide +kernel) ?_
      refine pda_c ?_ pda_nil
      exact (pd_var 1)
      refine pd_one ?_
      refine pd_bc (oc_all (by rfl)) T.b_all (by decide +kernel) ?_
      refine pda_c ?_ pda_nil
      refine pd_lc ?_ sc_w_like.nd (blkOk_by (own := [("_law_one", 2), ("_law_two", 3)]) (by rfl)) (fun _ _ _ _ _ => (pdg_tup (n := 2) (by rfl) (pdgs_cons (pdg_name 2 sc_w_like.nd) (pdgs_cons (pdg_name 3 sc_w_like.nd) pdgs_nil)))) ?_ ?_ (by rfl)
      refine pdi_zip T.b_zip ?_
      refine pda_c ?_ ?_
      exact (pd_var 0)
      refine pda_c ?_ pda_nil
      exact (pd_var 1)
      intro _ _ _ _ _
      exact (pdts_nil)
      intro _ _ _ _ _
      refine pd_fun (ih) (hr.mono (by omega)) ?_
      refine pda_c ?_ ?_
      exact (pd_var 2)
      refine pda_c ?_ pda_nil
      exact (pd_var 3)
      refine pds_cons ?_ ?_
      refine pds_if ?_ ?_ pds_nil
      refine PDW.pt ?_
      refine pdw_or ?_ ?_
      refine pdt_cmp (od_ne hr.units) ?_ ?_
      refine pd_isi ?_ (ClsV.ty _) (pd_bltn (v := .ty "bool") (u := .type "bool") T.b_bool (by decide +kernel) rfl) T.ans_bool T.b_isinstance
      exact (pd_var 0)
      refine pd_isi ?_ (ClsV.ty _) (pd_bltn (v := .ty "bool") (u := .type "bool") T.b_bool (by decide +kernel) rfl) T.ans_bool T.b_isinstance
      exact (pd_var 1)
      refine pdw_or1 ?_
      refine pdt_cmp (od_ne hr.units) ?_ ?_
      refine pd_isi ?_ (ClsV.ty _) (pd_bltn (v := .ty "int") (u := .type "int") T.b_int (by decide +kernel) rfl) T.ans_int T.b_isinstance
      exact (pd_var 0)
      refine pd_isi ?_ (ClsV.ty _) (pd_bltn (v := .ty "int") (u := .type "int") T.b_int (by decide +kernel) rfl) T.ans_int T.b_isinstance
      exact (pd_var 1)
      refine pds_one ?_
      exact (pds_ret pd_bl)
      refine pds_one ?_
      refine pds_ret ?_
      refine pd_and ?_ ?_
      refine pd_cmp (od_eq hr.units) ?_ ?_
      refine pd_isi ?_ (ClsV.ty _) (pd_bltn (v := .ty "str") (u := .type "str") T.b_str (by decide +kernel) rfl) T.ans_str T.b_isinstance
      exact (pd_var 0)
      refine pd_isi ?_ (ClsV.ty _) (pd_bltn (v := .ty "str") (u := .type "str") T.b_str (by decide +kernel) rfl) T.ans_str T.b_isinstance
      exact (pd_var 1)
      refine pd_one ?_
      refine pd_cmp (od_eq hr.units) ?_ ?_
      exact (pd_var 0)
      exact (pd_var 1)), (Bd.nil (FD.bindsN (fun _ _ _ _ _ _ us hl => match us, hl with | [_, _], _ => rfl))), rfl⟩

theorem ok_greatest_gap (T : Txt K mg c) {f : Addr} {fd : FuncData} (FD : FunD K "greatest_gap" "greatest_gap" (defArgs s_greatest_gap) (defBody s_greatest_gap) (defScope s_greatest_gap) [] [] f fd) : FnD P w K mg base 8 f fd ["count", "step"] (F_greatest_gap c) := fnD_of (N := ["count", "step"]) FD sc_greatest_gap (fun cdv A outer s H E hr => by
    refine pds_one ?_
    refine pds_ret ?_
    refine pd_ix ?_ pd_int
    refine pd_ix ?_ ?_
    refine pd_fun (ft_gap_widths_2 T) (hr.mono (by decide)) ?_
    refine pda_c ?_ ?_
    exact (pd_var 0)
    refine pda_c ?_ pda_nil
    exact (pd_var 1)
    exact (pd_negI pd_int))

theorem ftk_greatest_gap_0_step_count (T : Txt K mg c) : FTK P w K mg base 8 "greatest_gap" 0 ["step", "count"] (GK_greatest_gap_0_step_count c) := by
  obtain ⟨f, fd, hm, FD⟩ := T.fn_greatest_gap
  have hok := ok_greatest_gap (P := P) (w := w) (base := base) T FD
  have hkp := FD.kp
  obtain ⟨oc, od, dV, kV, doc, pm, an, cdv, ct, osl, rfl, lk, hcd, hD, hK⟩ := FD.ex
  obtain rfl := dfl_nil hD
  exact ⟨f, _, _, [1, 0], [], _, hm, hkp, hok, ⟨[], [], .nil, fun _ _ => .nil, fun s us ws _ l1 l2 => match us, ws, l1, l2 with | [], [_, _], _, _ => ⟨.of_eq rfl, rfl⟩⟩, rfl⟩

theorem ok_w_is (T : Txt K mg c) {f : Addr} {fd : FuncData} (FD : FunD K "_law_is" "_law_is" (defArgs s_w_is) (defBody s_w_is) (defScope s_w_is) [] [] f fd) : FnD P w K mg base 11 f fd ["_law_found", "_law_a", "_law_b"] (F_w_is c) := fnD_of (N := ["_law_found", "_law_a", "_law_b"]) FD sc_w_is (fun cdv A outer s H E hr => by
    refine pds_one ?_
    refine pds_ret ?_
    refine pd_fun (ft_w_like_2 T 8) (hr.mono (by decide)) ?_
    refine pda_c ?_ ?_
    refine pd_fun (ft_w_parts_1 T) (hr.mono (by decide)) ?_
    refine pda_c ?_ pda_nil
    exact (pd_var 0)
    refine pda_c ?_ pda_nil
    refine pd_fun (ft_w_frac_2 T) (hr.mono (by decide)) ?_
    refine pda_c ?_ ?_
    exact (pd_var 1)
    refine pda_c ?_ pda_nil
    exact (pd_var 2))

theorem ft_w_is_3 (T : Txt K mg c) : FT P w K mg base 11 "_law_is" (padF 3 [] (F_w_is c)) := by
  obtain ⟨f, fd, hm, FD⟩ := T.fn_w_is
  exact ⟨f, fd, _, _, _, hm, FD.kp, ok_w_is T FD, (Bd.nil (FD.bindsN (fun _ _ _ _ _ _ us hl => match us, hl with | [_, _, _], _ => rfl))), rfl⟩

theorem ok_law (T : Txt K mg c) {f : Addr} {fd : FuncData} (FD : FunD K "law" "law" (defArgs s_law) (defBody s_law) (defScope s_law) [] [] f fd) : FnD P w K mg base 12 f fd ["_law_script"] (F_law c) := fnD_of (N := ["_law_script", "_law_bag", "_law_turn", "_law_count_z", "_law_bottom", "_law_top", "_law_due", "_law_told", "_law_width", "_law_many"]) FD sc_law (fun cdv A outer s H E hr => by
    refine pds_cons ?_ ?_
    refine pds_set (i := 1) ?_ sc_law.nd
    refine pd_fun (ft_w_begin_1 T) (hr.mono (by decide)) ?_
    refine pda_c ?_ pda_nil
    exact (pd_var 0)
    refine pds_cons ?_ ?_
    refine pds_for ?_ (pdg_name 2 sc_law.nd) ?_ (by rfl) (passes_of rfl)
    refine pdi_range1 T.b_range ?_
    exact (pda_int pda_nil)
    refine pds_cons ?_ ?_
    refine pds_asg ?_ (pdg_tup (n := 2) (by rfl) (pdgs_cons (pdg_name 3 sc_law.nd) (pdgs_cons (pdg_name 4 sc_law.nd) pdgs_nil)))
    refine pd_tup ?_
    refine pda_c ?_ ?_
    refine pd_op od_add pd_int ?_
    refine pd_fun (ft_w_take_2 T) (hr.mono (by decide)) ?_
    refine pda_c ?_ ?_
    exact (pd_var 1)
    exact (pda_int pda_nil)
    refine pda_c ?_ pda_nil
    refine pd_op od_add pd_int ?_
    refine pd_fun (ft_w_take_2 T) (hr.mono (by decide)) ?_
    refine pda_c ?_ ?_
    exact (pd_var 1)
    exact (pda_int pda_nil)
    refine pds_cons ?_ ?_
    refine pds_set (i := 5) ?_ sc_law.nd
    refine pd_op od_sub ?_ ?_
    refine pd_fun (ft_w_take_2 T) (hr.mono (by decide)) ?_
    refine pda_c ?_ ?_
    exact (pd_var 1)
    refine pda_c ?_ pda_nil
    refine pd_op od_add ?_ pd_int
    refine pd_op od_mul pd_int ?_
    exact (pd_var 4)
    refine pd_op od_mul pd_int ?_
    exact (pd_var 4)
    refine pds_cons ?_ ?_
    refine pds_set (i := 6) ?_ sc_law.nd
    refine pd_fun (ft_w_gap_rows_3 T) (hr.mono (by decide)) ?_
    refine pda_c ?_ ?_
    exact (pd_var 3)
    refine pda_c ?_ ?_
    exact (pd_var 5)
    refine pda_c ?_ pda_nil
    exact (pd_var 4)
    refine pds_cons ?_ ?_
    refine pds_set (i := 7) ?_ sc_law.nd
    refine pd_funK (ks := ["step"]) (ftk_gap_widths_1_step T) (hr.mono (by decide)) ?_ ?_
    refine pda_c ?_ pda_nil
    exact (pd_var 3)
    refine pdk_cons ?_ pdk_nil
    refine pd_make (k := 3) (kt_Ratio_2 T) (hr.mono (by decide)) ?_
    refine pda_c ?_ ?_
    exact (pd_var 5)
    refine pda_c ?_ pda_nil
    exact (pd_var 4)
    refine pds_cons ?_ ?_
    refine pds_if ?_ ?_ pds_nil
    refine PDW.pt ?_
    refine pdw_or ?_ ?_
    refine pdt_not ?_
    refine pdt_val ?_
    refine pd_isi ?_ (ClsV.ty _) (pd_bltn (v := .ty "list") (u := .type "list") T.b_list (by decide +kernel) rfl) T.ans_list T.b_isinstance
    exact (pd_var 7)
    refine pdw_or1 ?_
    refine pdt_not ?_
    refine pdt_val ?_
    refine pd_fun (ft_w_like_2 T 8) (hr.mono (by decide)) ?_
    refine pda_c ?_ ?_
    refine pd_lcS ?_ sc_law.nd (blkOk_by (own := [("_law_width", 8), ("_law_many", 9)]) (by rfl)) (fun _ _ _ _ _ => (pdg_tup (n := 2) (by rfl) (pdgs_cons (pdg_name 8 sc_law.nd) (pdgs_cons (pdg_name 9 sc_law.nd) pdgs_nil)))) ?_ ?_ (fin_F _) (by rfl)
    exact (pd_var 7)
    intro _ _ _ _ _
    exact (pdts_nil)
    intro _ _ _ _ _
    refine pd_tup ?_
    refine pda_c ?_ ?_
    refine pd_fun (ft_w_parts_1 T) (hr.mono (by decide)) ?_
    refine pda_c ?_ pda_nil
    exact (pd_var 8)
    refine pda_c ?_ pda_nil
    exact (pd_var 9)
    refine pda_c ?_ pda_nil
    refine pd_lc ?_ sc_law.nd (blkOk_by (own := [("_law_width", 8), ("_law_many", 9)]) (by rfl)) (fun _ _ _ _ _ => (pdg_tup (n := 2) (by rfl) (pdgs_cons (pdg_name 8 sc_law.nd) (pdgs_cons (pdg_name 9 sc_law.nd) pdgs_nil)))) ?_ ?_ (by rfl)
    refine pdi_list ?_
    exact (pd_var 6)
    intro _ _ _ _ _
    exact (pdts_nil)
    intro _ _ _ _ _
    refine pd_tup ?_
    refine pda_c ?_ ?_
    refine pd_fun (ft_w_frac_2 T) (hr.mono (by decide)) ?_
    refine pda_c ?_ ?_
    exact (pd_var 8)
    refine pda_c ?_ pda_nil
    exact (pd_var 4)
    refine pda_c ?_ pda_nil
    exact (pd_var 9)
    refine pds_one ?_
    exact (pds_ret pd_bl)
    refine pds_cons ?_ ?_
    refine pds_expr ?_
    refine pd_clear ?_
    exact (pd_var 7)
    refine pds_one ?_
    refine pds_if ?_ ?_ pds_nil
    refine pdt_not ?_
    refine pdt_val ?_
    refine pd_fun (ft_w_is_3 T) (hr.mono (by decide)) ?_
    refine pda_c ?_ ?_
    refine pd_funK0 (ks := ["step", "count"]) (ftk_greatest_gap_0_step_count T) (hr.mono (by decide)) ?_
    refine pdk_cons ?_ ?_
    refine pd_make (k := 3) (kt_Ratio_2 T) (hr.mono (by decide)) ?_
    refine pda_c ?_ ?_
    exact (pd_var 5)
    refine pda_c ?_ pda_nil
    exact (pd_var 4)
    refine pdk_cons ?_ pdk_nil
    exact (pd_var 3)
    refine pda_c ?_ ?_
    refine pd_ix ?_ pd_int
    refine pd_ix ?_ ?_
    exact (pd_var 6)
    exact (pd_negI pd_int)
    refine pda_c ?_ pda_nil
    exact (pd_var 4)
    refine pds_one ?_
    exact (pds_ret pd_bl)
    refine pds_cons ?_ ?_
    refine pds_set (i := 7) ?_ sc_law.nd
    refine pd_fun (ft_gap_widths_2 T) (hr.mono (by decide)) ?_
    refine pda_int ?_
    refine pda_c ?_ pda_nil
    refine pd_make (k := 3) (kt_Ratio_2 T) (hr.mono (by decide)) ?_
    refine pda_int ?_
    exact (pda_int pda_nil)
    refine pds_one ?_
    refine pds_ret ?_
    refine pd_fun (ft_w_like_2 T 8) (hr.mono (by decide)) ?_
    refine pda_c ?_ ?_
    refine pd_lcS ?_ sc_law.nd (blkOk_by (own := [("_law_width", 8), ("_law_many", 9)]) (by rfl)) (fun _ _ _ _ _ => (pdg_tup (n := 2) (by rfl) (pdgs_cons (pdg_name 8 sc_law.nd) (pdgs_cons (pdg_name 9 sc_law.nd) pdgs_nil)))) ?_ ?_ (fin_F _) (by rfl)
    exact (pd_var 7)
    intro _ _ _ _ _
    exact (pdts_nil)
    intro _ _ _ _ _
    refine pd_tup ?_
    refine pda_c ?_ ?_
    refine pd_fun (ft_w_parts_1 T) (hr.mono (by decide)) ?_
    refine pda_c ?_ pda_nil
    exact (pd_var 8)
    refine pda_c ?_ pda_nil
    exact (pd_var 9)
    refine pda_c ?_ pda_nil
    refine pd_lst ?_
    refine pda_c ?_ ?_
    refine pd_tup ?_
    refine pda_c ?_ ?_
    refine pd_tup ?_
    refine pda_int ?_
    exact (pda_int pda_nil)
    exact (pda_int pda_nil)
    refine pda_c ?_ pda_nil
    refine pd_tup ?_
    refine pda_c ?_ ?_
    refine pd_tup ?_
    refine pda_int ?_
    exact (pda_int pda_nil)
    exact (pda_int pda_nil))

end
end W

set_option maxHeartbeats 1000000
namespace W
open PySem PySem.Spec L2 DL

@[simp] theorem orF_ap (f g : DFn) (ds : List D) (m : Mu) : orF f g ds m = match f ds m with
  | .stuck => g ds m
  | r => r := rfl
@[simp] theorem tru_bl (m : Mu) (b : Bool) : dTru m (.bl b) = some b := rfl
@[simp ↓] theorem dTrO_ap (rows : List (Kl × DFn)) (t : DE) (e : En) (m : Mu) : dTrO rows t e m = (t e m).bind fun d m => match dTru m d with
  | some b => .ok b m
  | none => match insOf m d with
    | some (C, ns, _) => match methAt rows C ns with
      | some G => (G [d] m).bind fun r m => match r with
        | .bl b => .ok b m
        | _ => .stuck
      | none => .stuck
    | none => .stuck := rfl
@[simp ↓] theorem dNotO_ap (rows : List (Kl × DFn)) (t : DE) (e : En) (m : Mu) : dNotO rows t e m = (dTrO rows t e m).bind fun b m => .ok (.bl !b) m := rfl
theorem log_lt {n k : Nat} (h : n < 2 ^ k) (hk : 0 < k) : n.log2 < k := by
  by_cases h0 : n = 0
  · subst h0; simpa using hk
  · exact (Nat.log2_lt h0).mpr h
theorem log_le {n : Nat} {k : Nat} (h : n ≤ 2 ^ k) : n.log2 ≤ k := by
  by_cases h0 : n = 0
  · subst h0; simp
  · have := (Nat.log2_lt h0 (k := k + 1)).mpr (by rw [Nat.pow_succ]; omega)
    omega
theorem mulOk_of {i j : Int} (h : i.natAbs.log2 + j.natAbs.log2 < 1000000) : mulOk i j = true := by
  unfold mulOk; simpa using h
theorem divOk_of {i j : Int} (h0 : j ≠ 0) (h : j.natAbs.log2 < 9000) : divOk i j = true := by
  unfold divOk; simp [h0, h]
theorem int_log {i : Int} {k : Nat} (h1 : -(2 ^ k : Nat) < i) (h2 : i < (2 ^ k : Nat)) (hk : 0 < k) : i.natAbs.log2 < k := log_lt (by omega) hk
theorem mulOk_lt {i j : Int} (h1 : -(2 ^ 100 : Nat) < i) (h2 : i < (2 ^ 100 : Nat)) (h3 : -(2 ^ 100 : Nat) < j) (h4 : j < (2 ^ 100 : Nat)) : mulOk i j = true :=
  mulOk_of (by have := int_log h1 h2 (by decide); have := int_log h3 h4 (by decide); omega)
def bagO (cells : List Int) (i r x : Int) : Mo := .lst [.lst (cells.map .int), .int i, .int r, .int x]
structure BagO (o : Mo) : Prop where
  ex : ∃ (cells : List Int) (i r x : Int), o = bagO cells i r x ∧ 0 ≤ i ∧ 0 ≤ r ∧ 0 ≤ x ∧ x < 2 ^ 31
structure BagOk (m : Mu) : Prop where
  ex : ∃ o, m[0]? = some o ∧ BagO o
theorem belows_ints (n : Nat) : ∀ xs : List Int, belows n (xs.map .int) = true
  | [] => rfl
  | x :: xs => by simp [belows, below, belows_ints n xs]
theorem BagO.below {o : Mo} (h : BagO o) (n : Nat) : o.below n = true := by
  obtain ⟨cells, i, r, x, rfl, _⟩ := h.ex
  simp [bagO, Mo.below, belows, DL.below, belows_ints]
/-- the same but for the bag -/
structure Bgs (m m' : Mu) : Prop where
  ex : ∃ o, m' = m.set 0 o ∧ BagO o
theorem Bgs.len {m m' : Mu} (h : Bgs m m') : m'.length = m.length := by obtain ⟨o, rfl, _⟩ := h.ex; simp
theorem Bgs.trans {m m' m'' : Mu} (h : Bgs m m') (k : Bgs m' m'') : Bgs m m'' := by
  obtain ⟨o, rfl, _⟩ := h.ex
  obtain ⟨o', rfl, hb⟩ := k.ex
  exact ⟨o', by simp, hb⟩
theorem BagOk.set {m : Mu} (h : BagOk m) {o : Mo} (b : BagO o) : BagOk (m.set 0 o) := by
  obtain ⟨o', h1, _⟩ := h.ex
  refine ⟨o, ?_, b⟩
  cases m with
  | nil => simp at h1
  | cons a t => rfl
theorem Bgs.bag {m m' : Mu} (h : Bgs m m') (b : BagOk m) : BagOk m' := by
  obtain ⟨o, rfl, hb⟩ := h.ex
  exact b.set hb
theorem Bgs.cl {m m' : Mu} (h : Bgs m m') (k : Cl m) : Cl m' := by
  obtain ⟨o, rfl, hb⟩ := h.ex
  intro q hq
  rw [List.length_set]
  rcases List.mem_or_eq_of_mem_set hq with z | z
  · exact k q z
  · subst z; exact hb.below _
theorem Bgs.get {m m' : Mu} (h : Bgs m m') (k : Nat) : m'[k + 1]? = m[k + 1]? := by
  obtain ⟨o, rfl, _⟩ := h.ex
  simp
theorem bagO_mk {cells : List Int} {i r x : Int} (h1 : 0 ≤ i) (h2 : 0 ≤ r) (h3 : 0 ≤ x) (h4 : x < 2 ^ 31) : BagO (bagO cells i r x) := ⟨cells, i, r, x, rfl, h1, h2, h3, h4⟩
theorem mod_b {a n : Int} (h : 0 < n) : 0 ≤ a % n ∧ a % n < n := ⟨Int.emod_nonneg _ (by omega), Int.emod_lt_of_pos _ h⟩
theorem mulOk_m {a n k : Int} (h : 0 < n) (h2 : n < 2 ^ 100) (h3 : 0 ≤ k) (h4 : k < 2 ^ 100) : mulOk (a % n) k = true := by
  have := mod_b (a := a) h
  exact mulOk_lt (by omega) (by omega) (by omega) (by omega)
theorem fdiv_nn {a n : Int} (h : 0 ≤ a) (hn : 0 < n) : 0 ≤ a.fdiv n := by
  rw [Int.fdiv_eq_ediv_of_nonneg _ (by omega)]
  exact Int.ediv_nonneg h (by omega)
theorem take_ex (c : Cs) {m : Mu} (hb : BagOk m) {n : Int} (hn : 0 < n) (hl : n < 2 ^ 200) :
    ∃ v o, F_w_take c [.loc 0, .int n] m = .ok (.int v) (m.set 0 o) ∧ 0 ≤ v ∧ v < n ∧ BagO o := by
  obtain ⟨o, h1, hb⟩ := hb.ex
  obtain ⟨cells, i, r, x, rfl, hi, hr, hx, hx2⟩ := hb.ex
  cases m with
  | nil => simp at h1
  | cons a t =>
  simp at h1
  subst h1
  have hd : ∀ r, divOk r n = true := fun r => divOk_of (by omega) (by have := int_log (i := n) (k := 200) (by omega) (by omega) (by decide); omega)
  have hd53 : ∀ r, divOk r 53 = true := fun r => divOk_of (by omega) (by decide)
  have hm7 : ∀ z : Int, mulOk (z % 7907) 179 = true := fun z => mulOk_m (by omega) (by omega) (by omega) (by omega)
  have hm1 : ∀ x : Int, 0 ≤ x → x < 2 ^ 31 → mulOk x 36919 = true := fun x h h2 => mulOk_lt (by omega) (by omega) (by omega) (by omega)
  have hm2 : ∀ x : Int, 0 ≤ x → x < 2 ^ 31 → mulOk x x = true := fun x h h2 => mulOk_lt (by omega) (by omega) (by omega) (by omega)
  have hm3 : ∀ x : Int, 0 ≤ x → x < 2 ^ 31 → mulOk x 29423 = true := fun x h h2 => mulOk_lt (by omega) (by omega) (by omega) (by omega)
  have hm4 : ∀ z : Int, mulOk (z % 2147483563) 7919 = true := fun z => mulOk_m (by omega) (by omega) (by omega) (by omega)
  have m7 : ∀ z : Int, 0 ≤ z % 2147483647 ∧ z % 2147483647 < 2 ^ 31 := fun z => by have := mod_b (a := z) (n := 2147483647) (by decide); omega
  have m8 : ∀ z : Int, 0 ≤ z % 2147483629 ∧ z % 2147483629 < 2 ^ 31 := fun z => by have := mod_b (a := z) (n := 2147483629) (by decide); omega
  have mn : ∀ z : Int, 0 ≤ z % n ∧ z % n < n := fun z => mod_b hn
  by_cases hc : r = 0 ∧ i < cells.length
  · obtain ⟨rfl, hi2⟩ := hc
    obtain ⟨j, rfl⟩ := Int.eq_ofNat_of_zero_le hi
    have hj : j < cells.length := by omega
    generalize hw : (if cells[j] < 0 then -cells[j] else cells[j]) = w
    have hw0 : 0 ≤ w := by subst hw; split <;> omega
    by_cases h18 : 1000000000000000000 ≤ w
    · have hp : 0 < w := by omega
      refine ⟨w % n, bagO cells (↑j + 1) (w.fdiv n) x, ?_, (mn w).1, (mn w).2, bagO_mk (by omega) (fdiv_nn hw0 hn) hx hx2⟩
      simp [F_w_take, env0, bagO, hj, hw, h18, hp, hd, hn]
    · generalize hR : F_w_take c _ _ = R
      simp [F_w_take, env0, bagO, hj, hw, h18, hm1 x hx hx2, hm4, hm2 _ (m8 _).1 (m8 _).2, hm3 _ (m8 _).1 (m8 _).2, hd53, hm7, hn] at hR
      subst hR
      exact ⟨_, bagO cells (↑j + 1) 0 _, rfl, (mn _).1, (mn _).2, bagO_mk (by omega) (by omega) (m7 _).1 (m7 _).2⟩
  · by_cases hr0 : 0 < r
    · refine ⟨r % n, bagO cells i (r.fdiv n) x, ?_, (mn _).1, (mn _).2, bagO_mk hi (fdiv_nn hr hn) hx hx2⟩
      have : ¬ r = 0 := by omega
      simp [F_w_take, env0, bagO, hr0, hd, hn, this]
    · have : r = 0 := by omega
      subst this
      have hi2 : ¬ i < cells.length := fun h => hc ⟨rfl, h⟩
      generalize hR : F_w_take c _ _ = R
      simp [F_w_take, env0, bagO, hi2, hm2 x hx hx2, hm3 x hx hx2, hd53, hm7, hn] at hR
      subst hR
      exact ⟨_, bagO cells i 0 _, rfl, (mn _).1, (mn _).2, bagO_mk hi (by omega) (m7 _).1 (m7 _).2⟩
theorem take_ok (c : Cs) {m : Mu} (hb : BagOk m) {n : Int} (hn : 0 < n) (hl : n < 2 ^ 200) :
    ∃ v m', F_w_take c [.loc 0, .int n] m = .ok (.int v) m' ∧ 0 ≤ v ∧ v < n ∧ Bgs m m' := by
  obtain ⟨v, o, h1, h2, h3, h4⟩ := take_ex c hb hn hl
  exact ⟨v, _, h1, h2, h3, ⟨o, rfl, h4⟩⟩
theorem gcd_step (a b : Nat) : Nat.gcd b (a % b) = Nat.gcd a b := by rw [Nat.gcd_comm b, ← Nat.gcd_rec, Nat.gcd_comm]
theorem divisor_while (c : Cs) (m : Mu) : ∀ (k a b : Nat), b < k → whileF (T_w_divisor_1 c) (B_w_divisor_1 c) k [some (.int a), some (.int b)] m = .nx [some (.int (Nat.gcd a b)), some (.int 0)] m
  | 0, a, b, h => by omega
  | k + 1, a, b, h => by
    unfold whileF
    by_cases hb : b = 0
    · subst hb; simp [T_w_divisor_1_ap]
    · have hb' : 0 < b := by omega
      have hm := Nat.mod_lt a hb'
      have ih := divisor_while c m k b (a % b) (by omega)
      rw [Int.natCast_emod, gcd_step] at ih
      simp [T_w_divisor_1_ap, B_w_divisor_1_ap, hb', ih]
theorem divisor_ok (c : Cs) (a b : Int) (ha : 0 ≤ a) (hb : 0 ≤ b) (m : Mu) : F_w_divisor c [.int a, .int b] m = .ok (.int (Int.gcd a b)) m := by
  obtain ⟨j, rfl⟩ := Int.eq_ofNat_of_zero_le ha
  obtain ⟨k, rfl⟩ := Int.eq_ofNat_of_zero_le hb
  have h := dWhile_eq (divisor_while c m (k + 1) j k (by omega)) (by simp)
  simp [F_w_divisor, env0, h, Int.gcd]
theorem common_while (c : Cs) (m : Mu) : ∀ (k a b : Nat), b < k → whileF (T_common_divisor_1 c) (B_common_divisor_1 c) k [some (.int a), some (.int b)] m = .nx [some (.int (Nat.gcd a b)), some (.int 0)] m
  | 0, a, b, h => by omega
  | k + 1, a, b, h => by
    unfold whileF
    by_cases hb : b = 0
    · subst hb; simp [T_common_divisor_1_ap]
    · have hb' : 0 < b := by omega
      have hm := Nat.mod_lt a hb'
      have ih := common_while c m k b (a % b) (by omega)
      rw [Int.natCast_emod, gcd_step] at ih
      simp [T_common_divisor_1_ap, B_common_divisor_1_ap, hb', ih, hb]
theorem common_ok (c : Cs) (a b : Int) (ha : 0 ≤ a) (hb : 0 ≤ b) (m : Mu) : F_common_divisor c [.int a, .int b] m = .ok (.int (Int.gcd a b)) m := by
  obtain ⟨j, rfl⟩ := Int.eq_ofNat_of_zero_le ha
  obtain ⟨k, rfl⟩ := Int.eq_ofNat_of_zero_le hb
  have h := dWhile_eq (common_while c m (k + 1) j k (by omega)) (by simp)
  simp [F_common_divisor, env0, h, Int.gcd]
/-- a fraction's own form -/
def fr (q : Rat) : D := .tup [.int q.num, .int q.den]
theorem abs_gcd (a b : Int) : Int.gcd (if a < 0 then -a else a) (if b < 0 then -b else b) = Int.gcd a b := by
  unfold Int.gcd
  congr 1 <;> split <;> omega
theorem abs_nn (a : Int) : 0 ≤ (if a < 0 then -a else a) := by split <;> omega
/-- the divisor with the lower part's sign -/
def sg (a b : Int) : Int := if 0 < b then (Int.gcd a b : Int) else -(Int.gcd a b : Int)
theorem sg_ne (a : Int) {b : Int} (hb : b ≠ 0) : sg a b ≠ 0 := by
  unfold sg
  have : Int.gcd a b ≠ 0 := by rw [Ne, Int.gcd_eq_zero_iff]; omega
  split <;> omega
theorem sg_num (a : Int) {b : Int} (hb : b ≠ 0) : a.fdiv (sg a b) = (Rat.divInt a b).num := by
  rw [Rat.num_divInt, Int.gcd_comm b a]
  unfold sg
  have hg : (Int.gcd a b : Int) ∣ a := Int.gcd_dvd_left ..
  obtain ⟨k, hk⟩ := hg
  have h0 : (Int.gcd a b : Int) ≠ 0 := by have : Int.gcd a b ≠ 0 := by rw [Ne, Int.gcd_eq_zero_iff]; omega
                                          omega
  generalize (Int.gcd a b : Int) = g at *
  subst hk
  by_cases h : 0 < b
  · rw [if_pos h, Int.sign_eq_one_of_pos h, Int.one_mul, Int.mul_fdiv_cancel_left _ h0, Int.mul_ediv_cancel_left _ h0]
  · rw [if_neg h, Int.sign_eq_neg_one_of_neg (by omega), Int.neg_one_mul, ← Int.mul_neg, Int.mul_ediv_cancel_left _ h0, ← Int.neg_mul_neg, Int.mul_fdiv_cancel_left _ (by omega)]
theorem sg_den (a : Int) {b : Int} (hb : b ≠ 0) : b.fdiv (sg a b) = (Rat.divInt a b).den := by
  rw [Rat.den_divInt, if_neg hb, Int.gcd_comm b a]
  unfold sg
  have hg : (Int.gcd a b : Int) ∣ b := Int.gcd_dvd_right ..
  have h0 : Int.gcd a b ≠ 0 := by rw [Ne, Int.gcd_eq_zero_iff]; omega
  generalize Int.gcd a b = g at *
  have h0' : (g : Int) ≠ 0 := by omega
  obtain ⟨k, hk⟩ := hg
  subst hk
  have e : ((g : Int) * k).natAbs = g * k.natAbs := by rw [Int.natAbs_mul]; simp
  rw [e, Nat.mul_div_cancel_left _ (by omega)]
  by_cases h : 0 < (g : Int) * k
  · rw [if_pos h, Int.mul_fdiv_cancel_left _ h0']
    have : 0 < k := Int.pos_of_mul_pos_right h (by omega)
    omega
  · rw [if_neg h, ← Int.neg_mul_neg, Int.mul_fdiv_cancel_left _ (by omega)]
    have : ¬ 0 < k := fun z => h (Int.mul_pos (by omega) z)
    omega
theorem gcd_log (a : Int) {b : Int} (hb : b ≠ 0) : (Int.gcd a b).log2 ≤ b.natAbs.log2 := by
  have h : Int.gcd a b ≤ b.natAbs := Nat.le_of_dvd (by omega) (Int.gcd_dvd_natAbs_right a b)
  have h0 : Int.gcd a b ≠ 0 := by rw [Ne, Int.gcd_eq_zero_iff]; omega
  exact (Nat.le_log2 (by omega)).mpr (Nat.le_trans (Nat.log2_self_le h0) h)
theorem sg_log (a : Int) {b : Int} (hb : b ≠ 0) : (sg a b).natAbs.log2 ≤ b.natAbs.log2 := by
  have := gcd_log a hb
  unfold sg; split <;> simpa using this
theorem frac_ok (c : Cs) (a : Int) {b : Int} (hb : b ≠ 0) (hl : b.natAbs.log2 < 9000) (m : Mu) : F_w_frac c [.int a, .int b] m = .ok (fr (Rat.divInt a b)) m := by
  have h := divisor_ok c _ _ (abs_nn a) (abs_nn b) m
  rw [abs_gcd] at h
  have hd : ∀ z, divOk z (sg a b) = true := fun z => divOk_of (sg_ne a hb) (by have := sg_log a hb; omega)
  have hs : sizeLine = 16777216 := rfl
  by_cases h0 : 0 < b
  · have e : ((Int.gcd a b : Nat) : Int) = sg a b := by unfold sg; rw [if_pos h0]
    rw [e] at h
    simp [F_w_frac, env0, h, h0, hd, hs, sg_num a hb, sg_den a hb, fr]
  · have e : ((Int.gcd a b : Nat) : Int) = - sg a b := by unfold sg; rw [if_neg h0]; omega
    rw [e] at h
    simp [F_w_frac, env0, h, h0, hd, hs, sg_num a hb, sg_den a hb, fr]
@[simp ↓] theorem dMake_ap (C : Addr) (G : DFn) (t : DA) (e : En) (m : Mu) : dMake C G t e m = match t e m with
  | .stuck => .stuck
  | .ok ds m1 => mkObj C m1 (G (.loc m1.length :: ds) (m1 ++ [.ins C []]))
  | .exc C fs m1 => .exc C fs m1 := by
  unfold dMake
  cases t e m <;> rfl
@[simp] theorem set_last {α : Type} (m : List α) (x y : α) : (m ++ [x]).set m.length y = m ++ [y] := by
  rw [List.set_append_right _ _ (Nat.le_refl _), Nat.sub_self]; rfl
@[simp] theorem get_last {α : Type} (m : List α) (x : α) : (m ++ [x])[m.length]? = some x := by simp
/-- a Ratio -/
def rat (c : Cs) (q : Rat) : D := .obj c.kRatio [.int q.num, .int q.den]
theorem whole_int (c : Cs) (a : Int) (m : Mu) : F_is_whole c [.int a] m = .ok (.bl true) m := by
  simp [F_is_whole, env0, ans_bool, ans_int, tagOf, Ans.get, primNames]
theorem init_ok (c : Cs) (a : Int) {b : Int} (hb : b ≠ 0) (hl : b.natAbs.log2 < 9000) (m : Mu) :
    F_RatioD_initD c [.loc m.length, .int a, .int b] (m ++ [.ins c.cRatio []]) = .ok .non (m ++ [.ins c.cRatio [("own_top", .int (Rat.divInt a b).num), ("own_bottom", .int (Rat.divInt a b).den)]]) := by
  have h := common_ok c _ _ (abs_nn a) (abs_nn b) (m ++ [.ins c.cRatio []])
  rw [abs_gcd] at h
  have hd : ∀ z, divOk z (sg a b) = true := fun z => divOk_of (sg_ne a hb) (by have := sg_log a hb; omega)
  have hk : (("own_top" : Str) = "own_bottom") = False := by simp; decide +kernel
  by_cases h0 : b < 0
  · have e : ((Int.gcd a b : Nat) : Int) = - sg a b := by unfold sg; rw [if_neg (by omega)]; omega
    rw [e] at h
    simp only [h0, if_true, if_false] at h
    simp [F_RatioD_initD, env0, h, h0, hd, sg_num a hb, sg_den a hb, whole_int, hb, putD, hk]
  · have e : ((Int.gcd a b : Nat) : Int) = sg a b := by unfold sg; rw [if_pos (by omega)]
    rw [e] at h
    simp only [h0, if_true, if_false] at h
    simp [F_RatioD_initD, env0, h, h0, hd, sg_num a hb, sg_den a hb, whole_int, hb, putD, hk]
theorem mk_ratio (c : Cs) (a : Int) {b : Int} (hb : b ≠ 0) (hl : b.natAbs.log2 < 9000) {m : Mu} (hm : Cl m) :
    mkObj c.cRatio m (F_RatioD_initD c [.loc m.length, .int a, .int b] (m ++ [.ins c.cRatio []])) = .ok (rat c (Rat.divInt a b)) m := by
  rw [init_ok c a hb hl]
  simp [mkObj, hm, belows, below, rat, nsRatio]
theorem like_zip (c : Cs) (n : Nat) (e : En) (m : Mu) (he : e.length = 4) (ds : List D) (hl : ds.length ≤ sizeLine) (h : ∀ d ∈ ds, F_w_like c n [d, d] m = .ok (.bl true) m) :
    dCompL (dTupG 2 (dGcons (dName 2) (dGcons (dName 3) dGnil))) dYes (dFun (padF 2 [] (F_w_like c n)) (dCons (dVar 2) (dCons (dVar 3) dNil))) e (ds.map fun a => .tup [a, a]) m [] = .ok (List.replicate ds.length (.bl true)) m := by
  match e, he with
  | [a, b, x, y], _ =>
  rw [dCompL_map (fun _ => .bl true)]
  · rw [List.map_map, show [] ++ List.map ((fun x => D.bl true) ∘ fun a => D.tup [a, a]) ds = List.replicate ds.length (D.bl true) from List.eq_replicate_iff.mpr ⟨by simp, by simp⟩]
  · intro d hd
    obtain ⟨z, hz, rfl⟩ := List.mem_map.mp hd
    refine ⟨[a, b, some z, some z], by simp, by simp, by simp [h z hz]⟩
  · simpa using hl
theorem like_refl (c : Cs) (m : Mu) : ∀ (n : Nat) (d : D), plainD n d → F_w_like c n [d, d] m = .ok (.bl true) m
  | 0, _, h => h.elim
  | n + 1, .non, _ => by simp [F_w_like, env0, gIsN]
  | n + 1, .bl _, _ => by simp [F_w_like, env0, gIsN, ans_bool, ans_int, ans_list, ans_list_tuple, ans_str, ans_tuple, tagOf, Ans.get, primNames]
  | n + 1, .int _, _ => by simp [F_w_like, env0, gIsN, ans_bool, ans_int, ans_list, ans_list_tuple, ans_str, ans_tuple, tagOf, Ans.get, primNames]
  | n + 1, .str _, _ => by simp [F_w_like, env0, gIsN, ans_bool, ans_int, ans_list, ans_list_tuple, ans_str, ans_tuple, tagOf, Ans.get, primNames]
  | n + 1, .tup ds, h => by
    have z := like_zip c n [some (.tup ds), some (.tup ds), none, none] m rfl ds h.1 fun d hd => like_refl c m n d (h.2 d hd)
    simp [F_w_like, env0, gIsN, ans_bool, ans_int, ans_list, ans_list_tuple, ans_str, ans_tuple, tagOf, Ans.get, primNames, z, toBs_trues]
  | n + 1, .lst ds, h => by
    have z := like_zip c n [some (.lst ds), some (.lst ds), none, none] m rfl ds h.1 fun d hd => like_refl c m n d (h.2 d hd)
    simp [F_w_like, env0, gIsN, ans_bool, ans_int, ans_list, ans_list_tuple, ans_str, ans_tuple, tagOf, Ans.get, primNames, z, toBs_trues]
theorem dpos (q : Rat) : (0 : Int) < q.den := by have := q.den_pos; omega
theorem dne (q : Rat) : (q.den : Int) ≠ 0 := by have := dpos q; omega
theorem sub_di (q r : Rat) : Rat.divInt (q.num * r.den - r.num * q.den) (q.den * r.den) = q - r := by
  rw [← Rat.divInt_sub_divInt _ _ (dne q) (dne r), Rat.num_divInt_den, Rat.num_divInt_den]
theorem mul_di (q r : Rat) : Rat.divInt (q.num * r.num) (q.den * r.den) = q * r := by
  rw [← Rat.divInt_mul_divInt, Rat.num_divInt_den, Rat.num_divInt_den]
theorem neg_di (q : Rat) : Rat.divInt (-q.num) q.den = -q := by
  rw [← Rat.neg_divInt, Rat.num_divInt_den]
/-- what is left of a turn -/
def mom (q : Rat) : Rat := q - (q.floor : Rat)
theorem mom_di (q : Rat) : Rat.divInt (q.num % q.den) q.den = mom q := by
  unfold mom
  have h : q.num % (q.den : Int) = q.num - q.den * q.floor := by rw [Rat.floor_def, Int.emod_def]
  rw [h]
  have e := sub_di q (q.floor : Rat)
  simp only [Rat.den_intCast, Rat.num_intCast] at e
  rw [← e]
  congr 1
  · rw [Int.mul_comm (q.den : Int)]; simp
  · simp
theorem red_num {a : Int} {b : Nat} (hb : b ≠ 0) (h : Nat.Coprime a.natAbs b) : (Rat.divInt a b).num = a ∧ (Rat.divInt a b).den = b := by
  have hg : Int.gcd (b : Int) a = 1 := by rw [Int.gcd_comm]; simpa [Int.gcd] using h
  constructor
  · rw [Rat.num_divInt, hg, Int.sign_eq_one_of_pos (by omega)]; simp
  · rw [Rat.den_divInt, hg, if_neg (by omega)]; simp
theorem mom_red (q : Rat) : (mom q).num = q.num % q.den ∧ (mom q).den = q.den := by
  rw [← mom_di q]
  refine red_num q.den_nz ?_
  have h := q.reduced
  unfold Nat.Coprime at h ⊢
  have h2 : Int.gcd q.num q.den = 1 := by simpa [Int.gcd] using h
  have h3 : Int.gcd (q.num % q.den) q.den = 1 := by
    rw [Int.emod_def, Int.gcd_comm]
    simp [Int.gcd_comm, h2]
  simpa [Int.gcd] using h3
/-- how far from the nearest turn -/
def aw (q : Rat) : Rat := if 1 - mom q < mom q then 1 - mom q else mom q
def Bi (k : Nat) (a : Int) : Prop := a.natAbs < 2 ^ k
structure Sz (k : Nat) (q : Rat) : Prop where
  n : Bi k q.num
  d : q.den < 2 ^ k
theorem Bi.mono {j k : Nat} {a : Int} (h : Bi j a) (hk : j ≤ k) : Bi k a := Nat.lt_of_lt_of_le h (Nat.pow_le_pow_right (by decide) hk)
theorem Sz.mono {j k : Nat} {a : Rat} (h : Sz j a) (hk : j ≤ k) : Sz k a := ⟨h.n.mono hk, Nat.lt_of_lt_of_le h.d (Nat.pow_le_pow_right (by decide) hk)⟩
theorem Bi.mul {j k : Nat} {a b : Int} (h : Bi j a) (h' : Bi k b) : Bi (j + k) (a * b) := by
  unfold Bi at *
  rw [Int.natAbs_mul, Nat.pow_add]
  by_cases hb : a.natAbs = 0
  · rw [hb, Nat.zero_mul]; exact Nat.mul_pos (Nat.two_pow_pos _) (Nat.two_pow_pos _)
  · exact Nat.lt_of_lt_of_le ((Nat.mul_lt_mul_left (by omega)).mpr h') (Nat.mul_le_mul_right _ (Nat.le_of_lt h))
theorem Bi.sub {k : Nat} {a b : Int} (h : Bi k a) (h' : Bi k b) : Bi (k + 1) (a - b) := by
  unfold Bi at *; rw [Nat.pow_succ]; omega
theorem Bi.neg {k : Nat} {a : Int} (h : Bi k a) : Bi k (-a) := by unfold Bi at *; omega
theorem Bi.emod {k : Nat} {b : Int} (a : Int) (h : Bi k b) (h0 : b ≠ 0) : Bi k (a % b) := by
  unfold Bi at *
  have h1 := Int.emod_nonneg a h0
  have h2 := Int.emod_lt a h0
  omega
theorem Bi.log {k : Nat} {a : Int} (h : Bi k a) : a.natAbs.log2 ≤ k := log_le (Nat.le_of_lt h)
theorem Bi.lt {k : Nat} {a : Int} (h1 : -(2 ^ k : Nat) < a) (h2 : a < (2 ^ k : Nat)) : Bi k a := by unfold Bi; omega
theorem Sz.bd {k : Nat} {q : Rat} (h : Sz k q) : Bi k q.den := by have := h.d; unfold Bi; simpa using this
theorem mul_Bi {j k : Nat} {a b : Int} (h : Bi j a) (h' : Bi k b) (hk : j + k < 1000000) : mulOk a b = true := mulOk_of (by have := h.log; have := h'.log; omega)
theorem nn {j k : Nat} {q r : Rat} (h : Sz j q) (h' : Sz k r) (hk : j + k < 1000000 := by decide) : mulOk q.num r.num = true := mul_Bi h.n h'.n hk
theorem nd {j k : Nat} {q r : Rat} (h : Sz j q) (h' : Sz k r) (hk : j + k < 1000000 := by decide) : mulOk q.num r.den = true := mul_Bi h.n h'.bd hk
theorem dn {j k : Nat} {q r : Rat} (h : Sz j q) (h' : Sz k r) (hk : j + k < 1000000 := by decide) : mulOk q.den r.num = true := mul_Bi h.bd h'.n hk
theorem Sz.di {k : Nat} {a b : Int} (h : Bi k a) (h' : Bi k b) (hb : b ≠ 0) : Sz k (Rat.divInt a b) := by
  constructor
  · unfold Bi
    rw [Rat.num_divInt]
    have : (b.sign * a / (b.gcd a : Int)).natAbs ≤ a.natAbs := by
      have h1 : (b.sign * a).natAbs = a.natAbs := by rw [Int.natAbs_mul, Int.natAbs_sign_of_ne_zero hb, Nat.one_mul]
      rw [← h1]
      exact Int.natAbs_ediv_le_natAbs _ _
    exact Nat.lt_of_le_of_lt this h
  · rw [Rat.den_divInt, if_neg hb]
    exact Nat.lt_of_le_of_lt (Nat.div_le_self _ _) h'
theorem mul_ne {a b : Int} (h : a ≠ 0) (h' : b ≠ 0) : a * b ≠ 0 := Int.mul_ne_zero h h'
theorem Sz.sub {j k : Nat} {q r : Rat} (h : Sz j q) (h' : Sz k r) : Sz (j + k + 1) (q - r) := by
  rw [← sub_di]
  refine Sz.di ?_ ((h.bd.mul h'.bd).mono (by omega)) (mul_ne (dne q) (dne r))
  exact (h.n.mul h'.bd).sub ((h'.n.mul h.bd).mono (by omega))
theorem Sz.mul {j k : Nat} {q r : Rat} (h : Sz j q) (h' : Sz k r) : Sz (j + k) (q * r) := by
  rw [← mul_di]
  exact Sz.di (h.n.mul h'.n) (h.bd.mul h'.bd) (mul_ne (dne q) (dne r))
theorem Sz.neg {j : Nat} {q : Rat} (h : Sz j q) : Sz j (-q) := by
  rw [← neg_di]
  exact Sz.di h.n.neg h.bd (dne q)
theorem Sz.mom {j : Nat} {q : Rat} (h : Sz j q) : Sz j (mom q) := by
  rw [← mom_di]
  exact Sz.di (h.bd.emod _ (dne q)) h.bd (dne q)
theorem Sz.int {j : Nat} {k : Int} (h : Bi j k) (hj : 0 < j) : Sz j (k : Rat) := ⟨by simpa using h, by simpa using Nat.one_lt_two_pow (by omega)⟩
@[simp ↓] theorem gMul_rat (c : Cs) (q : Rat) (y : D) (m : Mu) : gMul (rat c q) y m = .stuck := rfl
@[simp ↓] theorem gAdd_rat (c : Cs) (q : Rat) (y : D) (m : Mu) : gAdd (rat c q) y m = .stuck := rfl
@[simp ↓] theorem gSub_rat (c : Cs) (q : Rat) (y : D) (m : Mu) : gSub (rat c q) y m = .stuck := rfl
@[simp] theorem insOf_rat (m : Mu) (c : Cs) (q : Rat) : insOf m (rat c q) = some (c.cRatio, nsRatio, [.int q.num, .int q.den]) := rfl
@[simp] theorem kRatio_a (c : Cs) : (c.kRatio).a = c.cRatio := rfl
@[simp] theorem kRatio_ns (c : Cs) : (c.kRatio).ns = nsRatio := rfl
@[simp] theorem toV_rat (c : Cs) (q : Rat) (m : Mu) : tagOf m (rat c q) = some (.own c.cRatio) := rfl
theorem top_ok (c : Cs) (q : Rat) (m : Mu) : F_Ratio_top c [rat c q] m = .ok (.int q.num) m := by simp [F_Ratio_top, env0]
theorem bottom_ok (c : Cs) (q : Rat) (m : Mu) : F_Ratio_bottom c [rat c q] m = .ok (.int q.den) m := by simp [F_Ratio_bottom, env0]
theorem rmk (c : Cs) {k : Nat} {a b : Int} {m : Mu} (hb : b ≠ 0) (hl : Bi k b) (hk : k < 9000) (hm : Cl m) :
    mkObj c.cRatio m (F_RatioD_initD c [.loc m.length, .int a, .int b] (m ++ [.ins c.cRatio []])) = .ok (rat c (Rat.divInt a b)) m := mk_ratio c a hb (by have := hl.log; omega) hm
theorem moment_ok (c : Cs) {j : Nat} {q : Rat} {m : Mu} (h : Sz j q) (hm : Cl m) (hk : j < 9000 := by decide) : F_Ratio_moment c [rat c q] m = .ok (rat c (mom q)) m := by
  have e := rmk c (a := q.num % q.den) (dne q) h.bd hk hm
  rw [mom_di] at e
  simp [F_Ratio_moment, env0, q.den_pos, e]
theorem rmk1 (c : Cs) {k : Nat} {a : Int} {m : Mu} (hm : Cl m) :
    mkObj c.cRatio m (F_RatioD_initD c [.loc m.length, .int a, .int 1] (m ++ [.ins c.cRatio []])) = .ok (rat c (a : Rat)) m := by
  rw [rmk c (k := 1) (by decide) (by unfold Bi; decide) (by decide) hm]
  congr 2
  rw [Rat.divInt_eq_div]; simp only [Rat.intCast_one]; grind
theorem parts_ok (c : Cs) (q : Rat) (m : Mu) : F_w_parts c [rat c q] m = .ok (fr q) m := by
  have hs : sizeLine = 16777216 := rfl
  simp [F_w_parts, env0, ans_Ratio__Ratio, Ans.get, top_ok, bottom_ok, hs, fr]
theorem fracR (c : Cs) {k : Nat} {a b : Int} (hb : b ≠ 0) (hl : Bi k b) (hk : k < 9000) (m : Mu) : F_w_frac c [.int a, .int b] m = .ok (fr (Rat.divInt a b)) m := frac_ok c a hb (by have := hl.log; omega) m
theorem fr_plain (q : Rat) (n : Nat) : plainD (n + 2) (fr q) := by simp [fr, plainD, sizeLine]
theorem begin_ok (c : Cs) (ns : List Int) (hl : ns.length ≤ 63) : ∃ m, F_w_begin c [.lst (ns.map .int)] [] = .ok (.loc 0) m ∧ BagOk m ∧ Cl m := by
  have hs : sizeLine = 16777216 := rfl
  have hx : cutD (ns.map .int) none (some 63) = (ns.take 63).map D.int := by
    simp [cutD, HT.sIx]
  have hm : ∀ k : Nat, k ≤ 63 → mulOk 17 k = true := fun k hk => mulOk_lt (by omega) (by omega) (by omega) (by omega)
  have hm2 := hm (min 63 ns.length) (by omega)
  have hB : BagO (bagO (ns.take 63) 0 0 (100050 + 17 * (min 63 ns.length : Nat))) := bagO_mk (by omega) (by omega) (by omega) (by omega)
  refine ⟨[bagO (ns.take 63) 0 0 (100050 + 17 * (min 63 ns.length : Nat))], ?_, ⟨_, rfl, hB⟩, ?_⟩
  · simp [F_w_begin, env0, hx, hs, hm2, bagO]
  · intro o ho
    simp at ho
    subst ho
    exact hB.below _
@[simp ↓] theorem dCompL_cons (g : DG) (c : DT) (b : DE) (e : En) (d : D) (ds : List D) (m : Mu) (acc : List D) : dCompL g c b e (d :: ds) m acc = match g d e with
    | none => .stuck
    | some e1 => match c e1 m with
      | .ok true m1 => match b e1 m1 with
        | .ok x m2 => if acc.length < sizeLine then dCompL g c b e ds m2 (acc ++ [x]) else .stuck
        | _ => .stuck
      | .ok false m1 => dCompL g c b e ds m1 acc
      | _ => .stuck := rfl
theorem below_mono {j k : Nat} (h : j ≤ k) : ∀ d : D, below j d = true → below k d = true
  | .loc n, e => by unfold below at e ⊢; have := of_decide_eq_true e; exact decide_eq_true (by omega)
  | .tup ds, e => by unfold below at e ⊢; exact belows_mono' h ds e
  | .lst ds, e => by unfold below at e ⊢; exact belows_mono' h ds e
  | .obj _ ds, e => by unfold below at e ⊢; exact belows_mono' h ds e
  | .xob _ _, e => by unfold below at e; cases e
  | .clo _ _, e => by unfold below at e; cases e
  | .lam _ _, e => by unfold below at e; cases e
  | .non, _ => rfl
  | .bl _, _ => rfl
  | .int _, _ => rfl
  | .str _, _ => rfl
  | .val _, _ => rfl
where belows_mono' {j k : Nat} (h : j ≤ k) : ∀ ds : List D, belows j ds = true → belows k ds = true
  | [], _ => rfl
  | d :: ds, e => by
    unfold belows at e ⊢
    obtain ⟨h1, h2⟩ := Bool.and_eq_true_iff.mp e
    exact Bool.and_eq_true_iff.mpr ⟨below_mono h d h1, belows_mono' h ds h2⟩
theorem belows_mono {j k : Nat} (h : j ≤ k) (ds : List D) (e : belows j ds = true) : belows k ds = true := by
  have := below_mono h (.tup ds) (by unfold below; exact e)
  unfold below at this; exact this
theorem Mo.below_mono {j' k' : Nat} (h : j' ≤ k') {o : Mo} (e : o.below j' = true) : o.below k' = true := by
  cases o with
  | lst ds => exact belows_mono h ds e
  | ins C fs => exact belows_mono h _ e
  | exo C k => cases k with
    | none => rfl
    | some k => exact decide_eq_true (Nat.lt_of_lt_of_le (of_decide_eq_true (show decide (k < j') = true from e)) h)
  | exd fs => exact belows_mono h _ e
  | dik kvs => exact belows_mono h _ e
  | dit kvs => exact belows_mono h _ e
theorem _root_.DL.Cl.snoc {m : Mu} (h : Cl m) {o : Mo} (ho : o.below (m.length + 1) = true) : Cl (m ++ [o]) := by
  intro q hq
  rw [List.length_append, List.length_singleton]
  rcases List.mem_append.mp hq with z | z
  · exact Mo.below_mono (Nat.le_succ _) (h q z)
  · have : q = o := List.mem_singleton.mp z
    subst this; exact ho
theorem comp_rng {g : DG} {cc : DT} {b : DE} {e : En} {m : Mu} (n : Nat) (f : Nat → D) (h : ∀ k : Nat, k < n → ∃ e1, g (.int k) e = some e1 ∧ cc e1 m = .ok true m ∧ b e1 m = .ok (f k) m) (hl : n ≤ sizeLine) :
    dCompL g cc b e (rngD 0 n) m [] = .ok ((List.range n).map f) m := by
  have hf : ∀ d, d ∈ rngD 0 n → ∃ k : Nat, k < n ∧ d = .int k := fun d hd => by
    unfold rngD at hd
    obtain ⟨k, hk, rfl⟩ := List.mem_map.mp hd
    exact ⟨k, List.mem_range.mp hk, by simp⟩
  rw [dCompL_map (fun d => match d with
    | .int i => f i.toNat
    | d => d)]
  · simp [rngD, Function.comp_def]
  · intro d hd
    obtain ⟨k, hk, rfl⟩ := hf d hd
    obtain ⟨e1, h1, h2, h3⟩ := h k hk
    exact ⟨e1, h1, h2, by simpa using h3⟩
  · simpa [rngD] using hl
theorem di_self {P : Int} (hP : 0 < P) : Rat.divInt P P = 1 := Rat.divInt_self' (by omega)
/-- only small letters -/
def Low (x : Str) : Prop := ∀ ch ∈ x.cps.toList, 97 ≤ ch ∧ ch ≤ 122
structure Good (x : Str) : Prop where
  lo : 1 ≤ x.length
  hi : x.length ≤ 8
  low : Low x
/-- item by item -/
inductive Two (P : D → D → Prop) : List D → List D → Prop
  | nil : Two P [] []
  | cons {d x : D} {ds xs : List D} : P d x → Two P ds xs → Two P (d :: ds) (x :: xs)
theorem Two.len {P : D → D → Prop} : ∀ {ds xs : List D}, Two P ds xs → xs.length = ds.length
  | _, _, .nil => rfl
  | _, _, .cons _ t => by simp [Two.len t]
theorem Two.all {P : D → D → Prop} {Q : D → Prop} : ∀ {ds xs : List D}, Two P ds xs → (∀ d x, P d x → Q x) → ∀ x ∈ xs, Q x
  | _, _, .nil, _, _, h => nomatch h
  | _, _, .cons p t, f, x, h => by
    rcases List.mem_cons.mp h with e | e
    · subst e; exact f _ _ p
    · exact Two.all t f x e
/-- a row of a law: a light in parts of the cycle -/
structure Row where
  nm : Str
  s : Int
  o : Int
  b : Int
def rowD (r : Row) : D := .tup [.str r.nm, .int r.s, .int r.o, .int r.b]
structure RowOk (P : Int) (r : Row) : Prop where
  nm : Good r.nm
  s0 : 0 < r.s
  s1 : r.s < P
  o0 : 0 ≤ r.o
  o1 : r.o ≤ 3 * P
  b0 : 0 ≤ r.b
  b1 : r.b ≤ 3 * P
structure Lt where
  x : Str
  s : Rat
  o : Rat
  b : Rat
  deriving DecidableEq
theorem filt_true {α : Type} (xs : List α) : (xs.filter fun _ => true) = xs := by simp
theorem toIs_map {α : Type} (f : α → Int) : ∀ xs : List α, toIs (xs.map fun x => .int (f x)) = some (xs.map f)
  | [] => rfl
  | x :: xs => by simp [toIs, toIs_map f xs]
def dst (N a : Int) : Int := if N - a % N < a % N then N - a % N else a % N
theorem dst_nn {N : Int} (h : 0 < N) (a : Int) : 0 ≤ dst N a := by
  unfold dst; have := mod_b (a := a) h; split <;> omega
def prD (c : Cs) (p : Rat × Rat) : D := .tup [rat c p.1, rat c p.2]
/-- the tents' top upon a ring of 2 P -/
structure Tops (S T : Lt → Int) (P : Int) (ls : List Lt) (R : Int) : Prop where
  le : ∀ x M : Int, (∀ l ∈ ls, M ≤ 2 * S l - dst (2 * P) (x + 2 * T l)) → M ≤ R
  at_ : ∃ x : Int, ∀ l ∈ ls, R ≤ 2 * S l - dst (2 * P) (x + 2 * T l)
theorem dst_half {N : Int} (h : 0 < N) (a : Int) : 2 * dst N a ≤ N := by
  unfold dst; have := mod_b (a := a) h; split <;> omega
theorem Tops.bd {S T : Lt → Int} {P : Nat} (hP : 0 < P) {ls : List Lt} {R : Int} (h : Tops S T P ls R) (h0 : ∀ l ∈ ls, 0 ≤ S l) : -(P : Int) ≤ R ∧ ∀ l ∈ ls, R ≤ 2 * S l := by
  refine ⟨h.le 0 _ fun l hl => ?_, fun l hl => ?_⟩
  · have := dst_half (N := 2 * P) (by omega) (0 + 2 * T l)
    have := h0 l hl
    omega
  · obtain ⟨x, hx⟩ := h.at_
    have := dst_nn (N := 2 * P) (by omega) (x + 2 * T l)
    have := hx l hl
    omega
@[simp] theorem ix_row0 (r : Row) (m : Mu) : gIx (rowD r) (.int 0) m = .ok (.str r.nm) m := rfl
@[simp] theorem ix_row1 (r : Row) (m : Mu) : gIx (rowD r) (.int 1) m = .ok (.int r.s) m := rfl
@[simp] theorem ix_row2 (r : Row) (m : Mu) : gIx (rowD r) (.int 2) m = .ok (.int r.o) m := rfl
@[simp] theorem ix_row3 (r : Row) (m : Mu) : gIx (rowD r) (.int 3) m = .ok (.int r.b) m := rfl
theorem dSeq_nx {t u : DS} {e e1 : En} {m m1 : Mu} (h : t e m = .nx e1 m1) : dSeq t u e m = u e1 m1 := by
  unfold dSeq; rw [h]
theorem is_ok (c : Cs) {k : Nat} {a b : Int} (ha : Bi k a) (hb : Bi k b) (h0 : b ≠ 0) (m : Mu) (hk : k < 8000 := by decide) : F_w_is c [rat c (Rat.divInt a b), .int a, .int b] m = .ok (.bl true) m := by
  have e1 := fracR c (a := a) h0 hb (by omega) m
  have e2 := like_refl c m 8 (fr (Rat.divInt a b)) (fr_plain _ 6)
  simp [F_w_is, env0, parts_ok, e1, e2]
structure RowG (P : Int) (r : Row) : Prop where
  nm : Good r.nm
  s0 : 0 < r.s
  s1 : r.s < P
  o0 : 0 ≤ r.o
  o1 : r.o ≤ 20000
  b0 : 0 ≤ r.b
  b1 : r.b ≤ 20000
theorem RowOk.g {P : Int} {r : Row} (hP : P ≤ 1000) (h : RowOk P r) : RowG P r := ⟨h.nm, h.s0, h.s1, h.o0, by have := h.o1; omega, h.b0, by have := h.b1; omega⟩
abbrev rmI (P x : Int) (r : Row) : Int := 2 * r.s - dst (2 * P) (x + 2 * (r.o + r.b))
/-- the top of rows' rooms upon the ring of 2 P -/
structure Top (P : Int) (rs : List Row) (R : Int) : Prop where
  le : ∀ x M : Int, (∀ r ∈ rs, M ≤ rmI P x r) → M ≤ R
  at_ : ∃ x : Int, ∀ r ∈ rs, R ≤ rmI P x r
theorem Top.mono {P : Int} {rs rs' : List Row} {R R' : Int} (h : Top P rs R) (h' : Top P rs' R') (k : ∀ x : Int, ∃ x' : Int, ∀ r' ∈ rs', ∃ r ∈ rs, rmI P x r ≤ rmI P x' r') : R ≤ R' := by
  obtain ⟨x, hx⟩ := h.at_
  obtain ⟨x', hx'⟩ := k x
  refine h'.le x' R fun r' hr' => ?_
  obtain ⟨r, hr, e⟩ := hx' r' hr'
  exact Int.le_trans (hx r hr) e
@[simp] theorem tru_rat (c : Cs) (q : Rat) (m : Mu) : dTru m (rat c q) = none := rfl
/-- more memory behind the old one -/
structure Grew (m m' : Mu) : Prop where
  ex : ∃ t, m' = m ++ t
  cl : Cl m'
theorem Grew.refl {m : Mu} (h : Cl m) : Grew m m := ⟨⟨[], by simp⟩, h⟩
theorem Grew.trans {m m1 m2 : Mu} (h : Grew m m1) (k : Grew m1 m2) : Grew m m2 := by
  obtain ⟨t, rfl⟩ := h.ex
  obtain ⟨u, rfl⟩ := k.ex
  exact ⟨⟨t ++ u, by simp⟩, k.cl⟩
theorem Grew.len {m m' : Mu} (h : Grew m m') : m.length ≤ m'.length := by obtain ⟨t, rfl⟩ := h.ex; simp
theorem Grew.get {m m' : Mu} (h : Grew m m') {n : Nat} {o : Mo} (e : m[n]? = some o) : m'[n]? = some o := by
  obtain ⟨t, rfl⟩ := h.ex
  rw [List.getElem?_append_left]
  · exact e
  · exact (List.getElem?_eq_some_iff.mp e).1
theorem Grew.bag {m m' : Mu} (h : Grew m m') (b : BagOk m) : BagOk m' := by
  obtain ⟨o, ho, hb⟩ := b.ex
  exact ⟨⟨o, h.get ho, hb⟩⟩
theorem Grew.one {m : Mu} {o : Mo} (h : Cl (m ++ [o])) : Grew m (m ++ [o]) := ⟨⟨[o], rfl⟩, h⟩
/-- a start and a width of P parts -/
structure Okp (P : Int) (p : Int × Int) : Prop where
  a0 : 0 ≤ p.1
  a1 : p.1 < P
  w0 : 0 ≤ p.2
  w1 : p.2 ≤ P
theorem Grew.snoc {m : Mu} {o : Mo} (h : Cl m) (ho : o.below (m.length + 1) = true) : Grew m (m ++ [o]) := .one (h.snoc ho)
/-- an arc that is not the whole cycle -/
structure Okq (P : Int) (p : Int × Int) : Prop where
  a0 : 0 ≤ p.1
  a1 : p.1 < P
  w0 : 0 ≤ p.2
  w1 : p.2 < P
theorem Okq.p {P : Int} {p : Int × Int} (h : Okq P p) : Okp P p := ⟨h.a0, h.a1, h.w0, Int.le_of_lt h.w1⟩
def pick {α : Type} (qs : List α) (C : List Nat) : List α := C.filterMap (qs[·]?)
def AscX (ps : List (Rat × Rat)) : Prop := ps.Pairwise fun a b => a.1 < b.1
def strt3 (p q r : Rat × Rat) : Prop := (q.2 - p.2) * (r.1 - q.1) = (r.2 - q.2) * (q.1 - p.1)
instance instStrt3 (p q r : Rat × Rat) : Decidable (strt3 p q r) := inferInstanceAs (Decidable (_ = _))
theorem AscX.lt {p q : Rat × Rat} {l : List (Rat × Rat)} (h : AscX (p :: q :: l)) : p.1 < q.1 := (List.pairwise_cons.mp h).1 q (by simp)
theorem AscX.sub {ps qs : List (Rat × Rat)} (h : AscX ps) (s : qs.Sublist ps) : AscX qs := List.Pairwise.sublist s h
@[simp ↓] theorem gAddS_rat (c : Cs) (q : Rat) (y : D) (m : Mu) : gAddS (rat c q) y m = .stuck := rfl
theorem gIx_at {α : Type} (F : α → D) {xs : List α} {k : Nat} {x : α} (h : xs[k]? = some x) (m : Mu) : gIx (.lst (xs.map F)) (.int (k : Int)) m = .ok (F x) m := by
  obtain ⟨h1, h2⟩ := List.getElem?_eq_some_iff.mp h
  rw [gIx_lst, show atI (xs.map F) ((k : Nat) : Int) = some (F x) from by
    have q : ixN xs.length ((k : Nat) : Int) = some k := by unfold ixN; simp; omega
    simp [atI, q, h2, h1]]
theorem gIx_last {α : Type} (F : α → D) {xs : List α} {x : α} (h : xs.getLast? = some x) (m : Mu) : gIx (.lst (xs.map F)) (.int (-1)) m = .ok (F x) m := by
  have h0 : xs ≠ [] := fun z => by rw [z] at h; simp at h
  have hl := List.length_pos_iff.mpr h0
  have h1 : xs[xs.length - 1]? = some x := by rw [← List.getLast?_eq_getElem?]; exact h
  obtain ⟨h2, h3⟩ := List.getElem?_eq_some_iff.mp h1
  rw [gIx_lst, show atI (xs.map F) (-1) = some (F x) from by
    have q : ixN xs.length (-1) = some (xs.length - 1) := by unfold ixN; simp; omega
    simp [atI, q, h3, h2]]
theorem NXe {a b : DS} {e e1 : En} {m m1 m2 : Mu} {P : En → Prop} (h : a e m = .nx e1 m1) (k : ∃ e2, b e1 m1 = .nx e2 m2 ∧ P e2) : ∃ e2, dSeq a b e m = .nx e2 m2 ∧ P e2 := by
  obtain ⟨e2, k1, k2⟩ := k
  exact ⟨e2, (dSeq_nx h).trans k1, k2⟩
theorem comp1_at {fin : List D → Mu → Res D} {g : DG} {c : DT} {b : DE} {e : En} {n : Nat} {m : Mu} {ds : List D} (h : m[n]? = some (.lst ds)) : comp1 fin g c b e (.loc n) m = (dCompG (fun m => m[n]? = some (.lst ds)) g c b e ds m []).bind fin := by
  unfold comp1
  split
  · rename_i e; cases e
  · rename_i k e
    cases e
    split
    · rename_i ds' h'; rw [h] at h'; cases h'; rfl
    · rename_i h'; exact absurd h (h' _)
  · rename_i h1 h2; exact absurd rfl (h2 n)
structure Fo where
  h : Rat
  s : Rat
  r : Rat
  p : Rat
def Fo.v (f : Fo) (x : Rat) : Rat := f.h + f.s * aw (f.r * x + f.p)
def AffOn (g : Rat → Rat) (a b : Rat) : Prop := ∃ α β : Rat, ∀ x, a ≤ x → x ≤ b → g x = α + β * x
theorem AffOn.sub {g : Rat → Rat} {a b u v : Rat} (h : AffOn g a b) (h0 : a ≤ u) (h1 : v ≤ b) : AffOn g u v := by
  obtain ⟨α, β, h⟩ := h
  exact ⟨α, β, fun x x0 x1 => h x (by grind) (by grind)⟩
end W

set_option maxHeartbeats 4000000
namespace W
open PySem PySem.Spec L2 DL
/-! ### the steps to the moments next to the first one -/
def tRt (c b a r l : Int) : Int := if (c - 1 - b).fdiv a < (r - 1).fdiv l then (c - 1 - b).fdiv a else (r - 1).fdiv l
def nS (c : Int) : Nat → Int → Int → Int → Int → Int × Int × Int × Int
  | 0, b, a, r, l => (b, a, r, l)
  | k + 1, b, a, r, l => if b + a < c then (if l < r then nS c k (b + tRt c b a r l * a) a (r - tRt c b a r l * l) l else nS c k b (a + tRt c a b l r * b) r (l - tRt c a b l r * r)) else (b, a, r, l)
structure NI (c n b a r l : Int) : Prop where
  b1 : 1 ≤ b
  a1 : 1 ≤ a
  r1 : 1 ≤ r
  l1 : 1 ≤ l
  bc : b ≤ c - 1
  ac : a ≤ c - 1
  eq : b * l + a * r = n
  g : Int.gcd r l = 1
theorem NI.swap {c n b a r l : Int} (h : NI c n b a r l) : NI c n a b l r := ⟨h.a1, h.b1, h.l1, h.r1, h.ac, h.bc, by have := h.eq; omega, by rw [Int.gcd_comm]; exact h.g⟩
theorem NI.ne {c n b a r l : Int} (h : NI c n b a r l) (hc : c < n) (hb : b + a < c) : r ≠ l := fun e => by
  subst e
  have g := h.g
  rw [Int.gcd_self] at g
  have r1 := h.r1
  have : r = 1 := by omega
  subst this
  have := h.eq
  omega
theorem fdiv_pos' {x y : Int} (hy : 1 ≤ y) (h : y ≤ x) : 1 ≤ x.fdiv y ∧ x.fdiv y * y ≤ x := by
  have hy0 : 0 ≤ y := by omega
  rw [Int.fdiv_eq_ediv_of_nonneg _ hy0]
  refine ⟨(Int.le_ediv_iff_mul_le (by omega)).mpr (by omega), ?_⟩
  have := Int.ediv_mul_le x (show y ≠ 0 by omega)
  exact this
theorem tRt_ok {c n b a r l : Int} (h : NI c n b a r l) (hb : b + a < c) (hr : l < r) : 1 ≤ tRt c b a r l ∧ tRt c b a r l * l ≤ r - 1 ∧ tRt c b a r l * a ≤ c - 1 - b ∧ tRt c b a r l ≤ r := by
  obtain ⟨p1, p2⟩ := fdiv_pos' (x := r - 1) (y := l) h.l1 (by omega)
  obtain ⟨q1, q2⟩ := fdiv_pos' (x := c - 1 - b) (y := a) h.a1 (by omega)
  have l1 := h.l1
  have a1 := h.a1
  have rr : (r - 1).fdiv l ≤ r - 1 := by
    have : (r - 1).fdiv l * 1 ≤ (r - 1).fdiv l * l := Int.mul_le_mul_of_nonneg_left l1 (by omega)
    omega
  unfold tRt
  split
  · rename_i hl
    have : (c - 1 - b).fdiv a * l ≤ (r - 1).fdiv l * l := Int.mul_le_mul_of_nonneg_right (by omega) (by omega)
    exact ⟨q1, by omega, q2, by omega⟩
  · rename_i hl
    have : (r - 1).fdiv l * a ≤ (c - 1 - b).fdiv a * a := Int.mul_le_mul_of_nonneg_right (by omega) (by omega)
    exact ⟨p1, p2, by omega, by omega⟩
theorem NI.step {c n b a r l : Int} (h : NI c n b a r l) (hb : b + a < c) (hr : l < r) : NI c n (b + tRt c b a r l * a) a (r - tRt c b a r l * l) l := by
  obtain ⟨t1, t2, t3, _⟩ := tRt_ok h hb hr
  obtain ⟨t, ht⟩ : ∃ t, tRt c b a r l = t := ⟨_, rfl⟩
  rw [ht] at t1 t2 t3 ⊢
  have ta : 0 ≤ t * a := Int.mul_nonneg (by omega) (by have := h.a1; omega)
  refine ⟨by have := h.b1; omega, h.a1, by omega, h.l1, by omega, h.ac, ?_, ?_⟩
  · have := h.eq
    grind
  · have := h.g
    rw [Int.gcd_sub_mul_right_left]
    exact this
theorem nS_end {c n : Int} (hc : c < n) : ∀ (k : Nat) (b a r l : Int), NI c n b a r l → (c - (b + a)).toNat ≤ k → NI c n (nS c k b a r l).1 (nS c k b a r l).2.1 (nS c k b a r l).2.2.1 (nS c k b a r l).2.2.2 ∧ ¬ (nS c k b a r l).1 + (nS c k b a r l).2.1 < c
  | 0, b, a, r, l, h, hk => ⟨h, by show ¬ b + a < c; omega⟩
  | k + 1, b, a, r, l, h, hk => by
    unfold nS
    by_cases hb : b + a < c
    · rw [if_pos hb]
      have ne := h.ne hc hb
      by_cases hr : l < r
      · rw [if_pos hr]
        have t := tRt_ok h hb hr
        have ta : 1 ≤ tRt c b a r l * a := by
          have := Int.mul_le_mul t.1 h.a1 (by omega) (by omega)
          omega
        exact nS_end hc k _ _ _ _ (h.step hb hr) (by omega)
      · rw [if_neg hr]
        have h' := h.swap
        have t := tRt_ok h' (by omega) (by omega)
        have ta : 1 ≤ tRt c a b l r * b := by
          have := Int.mul_le_mul t.1 h.b1 (by omega) (by omega)
          omega
        exact nS_end hc k _ _ _ _ (h'.step (by omega) (by omega)).swap (by omega)
    · rw [if_neg hb]; exact ⟨h, hb⟩
def sw4 (p : Int × Int × Int × Int) : Int × Int × Int × Int := (p.2.1, p.1, p.2.2.2, p.2.2.1)
theorem nS_swap {c n : Int} (hc : c < n) : ∀ (k : Nat) (b a r l : Int), NI c n b a r l → nS c k a b l r = sw4 (nS c k b a r l)
  | 0, b, a, r, l, h => rfl
  | k + 1, b, a, r, l, h => by
    unfold nS
    by_cases hb : b + a < c
    · rw [if_pos hb, if_pos (show a + b < c by omega)]
      have ne := h.ne hc hb
      by_cases hr : l < r
      · rw [if_pos hr, if_neg (show ¬ r < l by omega)]
        exact nS_swap hc k _ _ _ _ (h.step hb hr)
      · rw [if_neg hr, if_pos (show r < l by omega)]
        exact nS_swap hc k _ _ _ _ (h.swap.step (by omega) (by omega)).swap
    · rw [if_neg hb, if_neg (show ¬ a + b < c by omega)]
      rfl
theorem NI.init {c n t : Int} (hc : 2 ≤ c) (ht0 : 0 < t) (ht1 : t < n) (g : Int.gcd t n = 1) : NI c n 1 1 t (n - t) := ⟨by omega, by omega, by omega, by omega, by omega, by omega, by omega, by
  have e : Int.gcd t (n - t) = Int.gcd t n := by
    have := Int.gcd_sub_self_right t n
    first | exact this | (rw [Int.gcd_comm, Int.gcd_comm t n] <;> exact Int.gcd_sub_self_left _ _)
  rw [e]; exact g⟩
/-- the greatest gap, in parts of n -/
def gG (c : Int) (p : Int × Int × Int × Int) : Int := if c < p.1 + p.2.1 then p.2.2.1 + p.2.2.2 else if p.2.2.1 < p.2.2.2 then p.2.2.2 else p.2.2.1
def Gn (c t n : Int) : Int := if c = 1 then n else if n ≤ c then 1 else gG c (nS c c.toNat 1 1 t (n - t))
theorem gG_swap (c : Int) (p : Int × Int × Int × Int) : gG c (sw4 p) = gG c p := by
  obtain ⟨b, a, r, l⟩ := p
  show (if c < a + b then l + r else if l < r then r else l) = (if c < b + a then r + l else if r < l then l else r)
  by_cases h : c < a + b
  · have h' : c < b + a := by omega
    simp only [h, h', if_true]; omega
  · have h' : ¬ c < b + a := by omega
    simp only [h, h', if_false]; split <;> split <;> omega
theorem Gn_neg {c t n : Int} (h1 : 1 ≤ c) (ht0 : 0 < t) (ht1 : t < n) (g : Int.gcd t n = 1) : Gn c (n - t) n = Gn c t n := by
  unfold Gn
  by_cases e1 : c = 1
  · rw [if_pos e1, if_pos e1]
  · rw [if_neg e1, if_neg e1]
    by_cases e2 : n ≤ c
    · rw [if_pos e2, if_pos e2]
    · rw [if_neg e2, if_neg e2]
      have i := NI.init (c := c) (by omega) ht0 ht1 g
      have s := nS_swap (by omega) c.toNat 1 1 t (n - t) i
      rw [show n - (n - t) = t by omega, s, gG_swap]
/-! ### the last of a sorted list -/
theorem last_max {M : Int} : ∀ {L : List (Int × Int)}, SrtO.Srtd ltPP L → (∀ p ∈ L, p.1 ≤ M) → (∃ p ∈ L, p.1 = M) → ∃ w, L.getLast? = some (M, w)
  | [], _, _, ⟨p, hp, _⟩ => by simp at hp
  | [p], _, _, ⟨q, hq, e⟩ => by
    rw [List.mem_singleton.mp hq] at e
    exact ⟨p.2, by rw [← e]; rfl⟩
  | p :: q :: t, hs, hm, ⟨x, hx, e⟩ => by
    have h2 := (List.pairwise_cons.mp hs)
    have : ∃ y ∈ q :: t, y.1 = M := by
      rcases List.mem_cons.mp hx with rfl | hx
      · refine ⟨q, by simp, ?_⟩
        have := SrtO.lexB_no.mp (h2.1 q (by simp))
        have := hm q (by simp)
        omega
      · exact ⟨x, hx, e⟩
    obtain ⟨w, hw⟩ := last_max h2.2 (fun y hy => hm y (by simp [hy])) this
    exact ⟨w, by rw [List.getLast?_cons_cons]; exact hw⟩
/-! ### the walk of the loop -/
def Bd (x : Int) : Prop := -(2 ^ 100 : Nat) < x ∧ x < (2 ^ 100 : Nat)
theorem mulB {x y : Int} (h : Bd x) (h' : Bd y) : mulOk x y = true := mulOk_lt h.1 h.2 h'.1 h'.2
theorem divB {x y : Int} (h1 : 1 ≤ y) (h : Bd y) : divOk x y = true := divOk_of (by omega) (by have := int_log (i := y) (k := 100) h.1 h.2 (by decide); omega)
theorem ns_while (c : Cs) (m : Mu) {C n t : Int} (hc : C < n) (hC : Bd C) (hn : Bd n) : ∀ (k : Nat) (b a r l : Int) (x7 : Option D), NI C n b a r l → (C - (b + a)).toNat ≤ k →
    ∃ y7, whileF (T_nearest_steps_1 c) (B_nearest_steps_1 c) (k + 1) [some (.int C), some (.int t), some (.int n), some (.int b), some (.int a), some (.int r), some (.int l), x7] m = .nx [some (.int C), some (.int t), some (.int n), some (.int (nS C k b a r l).1), some (.int (nS C k b a r l).2.1), some (.int (nS C k b a r l).2.2.1), some (.int (nS C k b a r l).2.2.2), y7] m
  | 0, b, a, r, l, x7, h, hk => by
    have hb : ¬ b + a < C := by omega
    refine ⟨x7, ?_⟩
    unfold whileF
    simp [T_nearest_steps_1_ap, hb, nS]
  | k + 1, b, a, r, l, x7, h, hk => by
    by_cases hb : b + a < C
    · have ne := h.ne hc hb
      have b1 := h.b1
      have a1 := h.a1
      have r1 := h.r1
      have l1 := h.l1
      have bc := h.bc
      have ac := h.ac
      have rn : r ≤ n := by
        have e := h.eq
        have p1 : 1 * l ≤ b * l := Int.mul_le_mul_of_nonneg_right b1 (by omega)
        have p2 : 1 * r ≤ a * r := Int.mul_le_mul_of_nonneg_right a1 (by omega)
        omega
      have ln : l ≤ n := by
        have e := h.eq
        have p1 : 1 * l ≤ b * l := Int.mul_le_mul_of_nonneg_right b1 (by omega)
        have p2 : 1 * r ≤ a * r := Int.mul_le_mul_of_nonneg_right a1 (by omega)
        omega
      have Ba : Bd a := ⟨by omega, by have := hC.2; omega⟩
      have Bb : Bd b := ⟨by omega, by have := hC.2; omega⟩
      have Br : Bd r := ⟨by omega, by have := hn.2; omega⟩
      have Bl : Bd l := ⟨by omega, by have := hn.2; omega⟩
      by_cases hr : l < r
      · have T := tRt_ok h hb hr
        have ta : 1 ≤ tRt C b a r l * a := by
          have := Int.mul_le_mul T.1 a1 (by omega) (by omega)
          omega
        obtain ⟨y7, ih⟩ := ns_while c m hc hC hn (t := t) k (b + tRt C b a r l * a) a (r - tRt C b a r l * l) l (some (.int (tRt C b a r l))) (h.step hb hr) (by omega)
        refine ⟨y7, ?_⟩
        rw [show nS C (k + 1) b a r l = nS C k (b + tRt C b a r l * a) a (r - tRt C b a r l * l) l from by rw [nS, if_pos hb, if_pos hr]]
        have Bt : Bd (tRt C b a r l) := ⟨by omega, by have := Br.2; omega⟩
        have m1 := mulB Bt Ba
        have m2 := mulB Bt Bl
        have tm : (if (C - 1 - b).fdiv a < (r - 1).fdiv l then (C - 1 - b).fdiv a else (r - 1).fdiv l) = tRt C b a r l := rfl
        obtain ⟨T0, hT0⟩ : ∃ x, tRt C b a r l = x := ⟨_, rfl⟩
        rw [hT0] at ih m1 m2 tm ⊢
        unfold whileF
        simp [T_nearest_steps_1_ap, B_nearest_steps_1_ap, hb, hr, divB l1 Bl, divB a1 Ba, tm, m1, m2, ih]
      · have h' := h.swap
        have T := tRt_ok h' (by omega) (by omega)
        have ta : 1 ≤ tRt C a b l r * b := by
          have := Int.mul_le_mul T.1 b1 (by omega) (by omega)
          omega
        obtain ⟨y7, ih⟩ := ns_while c m hc hC hn (t := t) k b (a + tRt C a b l r * b) r (l - tRt C a b l r * r) (some (.int (tRt C a b l r))) (h'.step (by omega) (by omega)).swap (by omega)
        refine ⟨y7, ?_⟩
        rw [show nS C (k + 1) b a r l = nS C k b (a + tRt C a b l r * b) r (l - tRt C a b l r * r) from by rw [nS, if_pos hb, if_neg hr]]
        have Bt : Bd (tRt C a b l r) := ⟨by omega, by have := Bl.2; omega⟩
        have m1 := mulB Bt Bb
        have m2 := mulB Bt Br
        have tm : (if (C - 1 - a).fdiv b < (l - 1).fdiv r then (C - 1 - a).fdiv b else (l - 1).fdiv r) = tRt C a b l r := rfl
        obtain ⟨T0, hT0⟩ : ∃ x, tRt C a b l r = x := ⟨_, rfl⟩
        rw [hT0] at ih m1 m2 tm ⊢
        unfold whileF
        simp [T_nearest_steps_1_ap, B_nearest_steps_1_ap, hb, hr, divB r1 Br, divB b1 Bb, tm, m1, m2, ih]
    · refine ⟨x7, ?_⟩
      rw [show nS C (k + 1) b a r l = (b, a, r, l) from by rw [nS, if_neg hb]]
      unfold whileF
      simp [T_nearest_steps_1_ap, hb]
theorem ns_ok (c : Cs) (m : Mu) {C n t : Int} (hc : C < n) (hC2 : 2 ≤ C) (hC : Bd C) (hn : Bd n) (ht0 : 0 < t) (ht1 : t < n) (g : Int.gcd t n = 1) : F_nearest_steps c [.int C, .int t, .int n] m = .ok (.tup [.int (nS C C.toNat 1 1 t (n - t)).1, .int (nS C C.toNat 1 1 t (n - t)).2.1, .int (nS C C.toNat 1 1 t (n - t)).2.2.1, .int (nS C C.toNat 1 1 t (n - t)).2.2.2]) m := by
  have hz : sizeLine = 16777216 := rfl
  obtain ⟨y7, w⟩ := ns_while c m (t := t) hc hC hn C.toNat 1 1 t (n - t) none (NI.init hC2 ht0 ht1 g) (by omega)
  have w := dWhile_eq w (by simp)
  obtain ⟨p, hp⟩ : ∃ p, nS C C.toNat 1 1 t (n - t) = p := ⟨_, rfl⟩
  rw [hp] at w ⊢
  simp [F_nearest_steps, env0, w, hz]
end W

set_option maxHeartbeats 4000000
namespace W
open PySem PySem.Spec L2 DL
noncomputable def gp (C : Int) (q : Rat) : Rat := Rat.divInt (Gn C (q.num % q.den) q.den) q.den
def rws (C b a r l : Int) : List (Int × Int) := (if r = l then [(r, 2 * C - b - a)] else [(r, C - b), (l, C - a)]) ++ [(r + l, b + a - C)]
theorem rws_last {C n b a r l : Int} (h : NI C n b a r l) (hb : ¬ b + a < C) : ∃ w, ((sortP (rws C b a r l)).filter fun p => decide (0 < p.2)).getLast? = some (gG C (b, a, r, l), w) := by
  have b1 := h.b1; have a1 := h.a1; have r1 := h.r1; have l1 := h.l1; have bc := h.bc; have ac := h.ac
  have mem : ∀ p, p ∈ ((sortP (rws C b a r l)).filter fun p => decide (0 < p.2)) ↔ p ∈ rws C b a r l ∧ 0 < p.2 := fun p => by
    rw [List.mem_filter, show p ∈ sortP (rws C b a r l) ↔ p ∈ rws C b a r l from (srtB_perm ltPP (rws C b a r l)).mem_iff, decide_eq_true_eq]
  refine last_max ((srtB_srtd swo_ltPP _).filter _) (fun p hp => ?_) ?_
  · obtain ⟨h1, h2⟩ := (mem p).mp hp
    unfold rws at h1
    show p.1 ≤ (if C < b + a then r + l else if r < l then l else r)
    rcases List.mem_append.mp h1 with h1 | h1
    · split at h1
      · rw [List.mem_singleton.mp h1]
        dsimp only
        split
        · omega
        · split <;> omega
      · simp only [List.mem_cons, List.not_mem_nil, or_false] at h1
        rcases h1 with rfl | rfl
        · dsimp only
          split
          · omega
          · split <;> omega
        · dsimp only
          split
          · omega
          · split <;> omega
    · rw [List.mem_singleton.mp h1] at h2 ⊢
      dsimp only at h2 ⊢
      rw [if_pos (by omega)]; omega
  · show ∃ p : Int × Int, p ∈ _ ∧ p.1 = (if C < b + a then r + l else if r < l then l else r)
    by_cases k : C < b + a
    · refine ⟨(r + l, b + a - C), (mem _).mpr ⟨by unfold rws; simp, by show 0 < b + a - C; omega⟩, ?_⟩
      rw [if_pos k]
    · rw [if_neg k]
      by_cases e : r = l
      · refine ⟨(r, 2 * C - b - a), (mem _).mpr ⟨by unfold rws; simp [e], by show 0 < 2 * C - b - a; omega⟩, ?_⟩
        show r = _
        split <;> omega
      · by_cases k2 : r < l
        · refine ⟨(l, C - a), (mem _).mpr ⟨by unfold rws; simp [e], by show 0 < C - a; omega⟩, ?_⟩
          rw [if_pos k2]
        · refine ⟨(r, C - b), (mem _).mpr ⟨by unfold rws; simp [e], by show 0 < C - b; omega⟩, ?_⟩
          rw [if_neg k2]
theorem sz1 : Sz 1 (1 : Rat) := ⟨by unfold Bi; decide, by decide⟩
theorem di11 : Rat.divInt 1 1 = 1 := by decide +kernel
theorem rmkI (c : Cs) {a : Int} {m : Mu} (hm : Cl m) : mkObj c.cRatio m (F_RatioD_initD c [.loc m.length, .int a, .int 1] (m ++ [.ins c.cRatio []])) = .ok (rat c (a : Rat)) m := rmk1 c (k := 1) hm
end W

namespace W
/-- no way of fewer steps is shorter -/
theorem way_ge {n t b a r l k x : Int} (n0 : 0 < n) (b1 : 1 ≤ b) (a1 : 1 ≤ a) (r1 : 1 ≤ r) (l1 : 1 ≤ l) (eq : b * l + a * r = n) (hr : n ∣ r - b * t) (hl : n ∣ l + a * t) (k1 : 1 ≤ k) (k2 : k < a + b) (hx : n ∣ x - k * t) (x0 : 0 ≤ x) : r ≤ x := by
  obtain ⟨p, hp⟩ := hr
  obtain ⟨q, hq⟩ := hl
  obtain ⟨z, hz⟩ := hx
  have er : r = b * t + n * p := by omega
  have el : l = n * q - a * t := by omega
  have ex : x = k * t + n * z := by omega
  have one : b * q + a * p = 1 := by
    have h : n * (b * q + a * p) = n * 1 := by
      rw [Int.mul_one]
      conv => rhs; rw [← eq, er, el]
      grind
    exact Int.eq_of_mul_eq_mul_left (by omega) h
  obtain ⟨u, hu⟩ : ∃ u, k * p - b * z = u := ⟨_, rfl⟩
  obtain ⟨v, hv⟩ : ∃ v, k * q + a * z = v := ⟨_, rfl⟩
  have ek : a * u + b * v = k := by
    have : a * u + b * v = k * (b * q + a * p) := by rw [← hu, ← hv]; grind
    rw [this, one, Int.mul_one]
  have exv : x = r * v - l * u := by
    have : r * v - l * u = (k * t + n * z) * (b * q + a * p) := by rw [← hu, ← hv, er, el]; grind
    rw [this, one, Int.mul_one]; exact ex
  have nv : n * v = k * l + a * x := by rw [← hv, el, ex]; grind
  have kl : 0 < k * l := Int.mul_pos (by omega) (by omega)
  have ax : 0 ≤ a * x := Int.mul_nonneg (by omega) x0
  have v1 : 1 ≤ v := by
    have : 0 < n * v := by omega
    have := Int.pos_of_mul_pos_right this n0
    omega
  have u0 : u ≤ 0 := by
    by_cases h : u ≤ 0
    · exact h
    · have h1 : a * 1 ≤ a * u := Int.mul_le_mul_of_nonneg_left (by omega) (by omega)
      have h2 : b * 1 ≤ b * v := Int.mul_le_mul_of_nonneg_left (by omega) (by omega)
      omega
  have h1 : r * 1 ≤ r * v := Int.mul_le_mul_of_nonneg_left v1 (by omega)
  have h2 : l * u ≤ l * 0 := Int.mul_le_mul_of_nonneg_left u0 (by omega)
  omega
end W

set_option maxHeartbeats 4000000
namespace W
open PySem PySem.Spec L2 DL
/-- what the widths are: ways of so many steps -/
structure NJ (n t b a r l : Int) : Prop where
  r : n ∣ r - b * t
  l : n ∣ l + a * t
theorem NJ.swap {n t b a r l : Int} (h : NJ n t b a r l) : NJ n (-t) a b l r := ⟨by have := h.l; rwa [show l - a * -t = l + a * t by grind], by have := h.r; rwa [show r + b * -t = r - b * t by grind]⟩
theorem NJ.stepR {n t b a r l : Int} (h : NJ n t b a r l) (k : Int) : NJ n t (b + k * a) a (r - k * l) l := ⟨by
  obtain ⟨p, hp⟩ := h.r
  obtain ⟨q, hq⟩ := h.l
  exact ⟨p - k * q, by grind⟩, h.l⟩
theorem NJ.stepL {n t b a r l : Int} (h : NJ n t b a r l) (k : Int) : NJ n t b (a + k * b) r (l - k * r) := ⟨h.r, by
  obtain ⟨p, hp⟩ := h.r
  obtain ⟨q, hq⟩ := h.l
  exact ⟨q - k * p, by grind⟩⟩
theorem NJ.init (n t : Int) : NJ n t 1 1 t (n - t) := ⟨⟨0, by grind⟩, ⟨1, by grind⟩⟩
theorem nS_dvd {c n t : Int} : ∀ (k : Nat) (b a r l : Int), NJ n t b a r l → NJ n t (nS c k b a r l).1 (nS c k b a r l).2.1 (nS c k b a r l).2.2.1 (nS c k b a r l).2.2.2
  | 0, b, a, r, l, h => h
  | k + 1, b, a, r, l, h => by
    unfold nS
    split
    · split
      · exact nS_dvd k _ _ _ _ (h.stepR _)
      · exact nS_dvd k _ _ _ _ (h.stepL _)
    · exact h
/-- no way of fewer than c steps is shorter than the least width -/
theorem way_least {c n t b a r l k : Int} (n0 : 0 < n) (hi : NI c n b a r l) (hj : NJ n t b a r l) (hc : c ≤ b + a) (k1 : 1 ≤ k) (k2 : k < c) : r ≤ k * t % n ∧ l ≤ n - k * t % n := by
  have m0 := Int.emod_nonneg (k * t) (show n ≠ 0 by omega)
  have m1 := Int.emod_lt_of_pos (k * t) n0
  have md := Int.emod_add_mul_ediv (k * t) n
  refine ⟨way_ge (t := t) n0 hi.b1 hi.a1 hi.r1 hi.l1 hi.eq hj.r hj.l k1 (by omega) ⟨-(k * t / n), by rw [Int.mul_neg]; omega⟩ m0, ?_⟩
  have s := hj.swap
  refine way_ge (t := -t) (b := a) (a := b) (r := l) (l := r) (k := k) n0 hi.a1 hi.b1 hi.l1 hi.r1 (by have := hi.eq; omega) s.r s.l k1 (by omega) ⟨1 + k * t / n, ?_⟩ (by omega)
  rw [Int.mul_add, Int.mul_one, show k * -t = -(k * t) by grind]
  omega
end W

set_option maxHeartbeats 4000000
namespace W
open PySem PySem.Spec L2 DL
/-- the greatest gap never grows with one more moment -/
theorem gG_mono {c n t b a r l b' a' r' l' : Int} (n0 : 0 < n) (cn : c < n) (h : NI c n b a r l) (j : NJ n t b a r l) (hc : c ≤ b + a) (h' : NI (c + 1) n b' a' r' l') (j' : NJ n t b' a' r' l') (hc' : c + 1 ≤ b' + a') :
    gG (c + 1) (b', a', r', l') ≤ gG c (b, a, r, l) := by
  have s := j.swap
  have s' := j'.swap
  have e' := h'.eq
  have r1 := h.r1
  have l1 := h.l1
  have r1' := h'.r1
  have l1' := h'.l1
  have rr : r' ≤ r := way_ge (t := t) (k := b) (x := r) n0 h'.b1 h'.a1 r1' l1' e' j'.r j'.l h.b1 (by have := h.bc; omega) j.r (by omega)
  have ll : l' ≤ l := way_ge (t := -t) (k := a) (x := l) n0 h'.a1 h'.b1 l1' r1' (by omega) s'.r s'.l h.a1 (by have := h.ac; omega) s.r (by omega)
  have up : gG (c + 1) (b', a', r', l') ≤ r' + l' := by
    unfold gG
    dsimp only
    split
    · omega
    · split <;> omega
  by_cases z : c < b + a
  · have e : gG c (b, a, r, l) = r + l := by unfold gG; exact if_pos z
    omega
  · have hk := h.a1
    have hk2 := h.b1
    have low : gG c (b, a, r, l) = if r < l then l else r := by unfold gG; exact if_neg z
    rw [low]
    by_cases q : l ≤ r
    · -- one more moment parts the right way
      have x : r' ≤ r - l ∨ r = l := by
        by_cases e : r = l
        · exact .inr e
        · left
          refine way_ge (t := t) (k := b + a) (x := r - l) n0 h'.b1 h'.a1 r1' l1' e' j'.r j'.l (by omega) (by omega) ?_ (by omega)
          obtain ⟨p, hp⟩ := j.r
          obtain ⟨q, hq⟩ := j.l
          exact ⟨p - q, by grind⟩
      rcases x with x | x
      · split <;> omega
      · have g := h.g
        rw [x, Int.gcd_self] at g
        have := h.eq
        have l1 : l = 1 := by omega
        rw [x, l1] at this
        omega
    · have x : l' ≤ l - r := by
        refine way_ge (t := -t) (k := a + b) (x := l - r) n0 h'.a1 h'.b1 l1' r1' (by omega) s'.r s'.l (by omega) (by omega) ?_ (by omega)
        obtain ⟨p, hp⟩ := s.r
        obtain ⟨q, hq⟩ := s.l
        exact ⟨p - q, by grind⟩
      split <;> omega
end W

set_option maxHeartbeats 4000000
namespace W
open PySem PySem.Spec L2 DL
theorem Gn_bd {c t n : Int} (h1 : 1 ≤ c) (n1 : 1 ≤ n) (ht0 : 0 ≤ t) (ht1 : t < n) (g : Int.gcd t n = 1) : 1 ≤ Gn c t n ∧ Gn c t n ≤ n := by
  unfold Gn
  by_cases e1 : c = 1
  · rw [if_pos e1]; omega
  · rw [if_neg e1]
    by_cases e2 : n ≤ c
    · rw [if_pos e2]; omega
    · rw [if_neg e2]
      have t1 : 0 < t := by
        by_cases z : t = 0
        · rw [z, Int.gcd_zero_left] at g
          omega
        · omega
      obtain ⟨i, _⟩ := nS_end (show c < n by omega) c.toNat 1 1 t (n - t) (NI.init (by omega) t1 ht1 g) (by omega)
      obtain ⟨⟨b, a, r, l⟩, hp⟩ : ∃ p, nS c c.toNat 1 1 t (n - t) = p := ⟨_, rfl⟩
      rw [hp] at i ⊢
      dsimp only at i
      have e := i.eq
      have b1 := i.b1; have a1 := i.a1; have r1 := i.r1; have l1 := i.l1
      have p1 : 1 * l ≤ b * l := Int.mul_le_mul_of_nonneg_right b1 (by omega)
      have p2 : 1 * r ≤ a * r := Int.mul_le_mul_of_nonneg_right a1 (by omega)
      show 1 ≤ (if c < b + a then r + l else if r < l then l else r) ∧ (if c < b + a then r + l else if r < l then l else r) ≤ n
      split
      · omega
      · split <;> omega
theorem q_gcd (q : Rat) : Int.gcd (q.num % q.den) q.den = 1 := by
  obtain ⟨mr1, mr2⟩ := mom_red q
  have := (mom q).reduced
  rw [mr1, mr2] at this
  unfold Int.gcd
  exact this
theorem Gn_mono {c t n : Int} (h1 : 1 ≤ c) (n1 : 1 ≤ n) (ht0 : 0 ≤ t) (ht1 : t < n) (g : Int.gcd t n = 1) : Gn (c + 1) t n ≤ Gn c t n := by
  have bd := Gn_bd (c := c) h1 n1 ht0 ht1 g
  have bd' := Gn_bd (c := c + 1) (by omega) n1 ht0 ht1 g
  by_cases e1 : c = 1
  · subst e1
    have : Gn 1 t n = n := by unfold Gn; exact if_pos rfl
    omega
  · by_cases e2 : n ≤ c + 1
    · have : Gn (c + 1) t n = 1 := by unfold Gn; rw [if_neg (by omega), if_pos e2]
      omega
    · have t1 : 0 < t := by
        by_cases z : t = 0
        · rw [z, Int.gcd_zero_left] at g
          omega
        · omega
      have ea : Gn c t n = gG c (nS c c.toNat 1 1 t (n - t)) := by unfold Gn; rw [if_neg e1, if_neg (by omega)]
      have eb : Gn (c + 1) t n = gG (c + 1) (nS (c + 1) (c + 1).toNat 1 1 t (n - t)) := by unfold Gn; rw [if_neg (by omega), if_neg e2]
      obtain ⟨i, ib⟩ := nS_end (show c < n by omega) c.toNat 1 1 t (n - t) (NI.init (by omega) t1 ht1 g) (by omega)
      obtain ⟨i', ib'⟩ := nS_end (show c + 1 < n by omega) (c + 1).toNat 1 1 t (n - t) (NI.init (by omega) t1 ht1 g) (by omega)
      have d := nS_dvd (c := c) c.toNat 1 1 t (n - t) (NJ.init n t)
      have d' := nS_dvd (c := c + 1) (c + 1).toNat 1 1 t (n - t) (NJ.init n t)
      rw [ea, eb]
      obtain ⟨⟨b, a, r, l⟩, hp⟩ : ∃ p, nS c c.toNat 1 1 t (n - t) = p := ⟨_, rfl⟩
      obtain ⟨⟨b', a', r', l'⟩, hp'⟩ : ∃ p, nS (c + 1) (c + 1).toNat 1 1 t (n - t) = p := ⟨_, rfl⟩
      rw [hp] at i ib d ⊢
      rw [hp'] at i' ib' d' ⊢
      dsimp only at i ib d i' ib' d'
      exact gG_mono (t := t) (by omega) (by omega) i d (by omega) i' d' (by omega)
end W

set_option maxHeartbeats 4000000
namespace W
open PySem PySem.Spec L2 DL
/-- the rows of the gaps -/
def gpS (C : Int) (p : Int × Int × Int × Int) : List (Int × Int) := (sortP (rws C p.1 p.2.1 p.2.2.1 p.2.2.2)).filter fun p => decide (0 < p.2)
def gpL (C t n : Int) : List (Int × Int) := if C = 1 then [(n, 1)] else if n ≤ C then [(1, n)] else gpS C (nS C C.toNat 1 1 t (n - t))
theorem gaps_all (c : Cs) {q : Rat} {C : Int} (zq : Sz 100 q) (hC1 : 1 ≤ C) (hC : Bd C) {m : Mu} (hm : Cl m) : F_gaps_between c [.int C, rat c q] m = .ok (.loc m.length) (m ++ [.lst ((gpL C (q.num % q.den) q.den).map fun p => .tup [rat c (Rat.divInt p.1 q.den), .int p.2])]) := by
  have hz : sizeLine = 16777216 := rfl
  have mo := moment_ok c zq hm (by decide)
  obtain ⟨mr1, mr2⟩ := mom_red q
  obtain ⟨n, hn⟩ : ∃ n : Int, (q.den : Int) = n := ⟨_, rfl⟩
  have n1 : 1 ≤ n := by have := q.den_pos; omega
  have nB : Bi 100 n := by rw [← hn]; exact zq.bd
  have nBd : Bd n := by
    have := zq.d
    constructor <;> omega
  obtain ⟨t, ht⟩ : ∃ t, q.num % n = t := ⟨_, rfl⟩
  rw [hn, ht] at mr1
  have tp : F_Ratio_top c [rat c (mom q)] m = .ok (.int t) m := by
    rw [← mr1]; simp [F_Ratio_top, env0]
  have bt : F_Ratio_bottom c [rat c q] m = .ok (.int n) m := by
    rw [← hn]; simp [F_Ratio_bottom, env0]
  have iQ : insOf m (rat c q) = some (c.cRatio, nsRatio, [.int q.num, .int q.den]) := rfl
  have iM : insOf m (rat c (mom q)) = some (c.cRatio, nsRatio, [.int (mom q).num, .int (mom q).den]) := rfl
  rw [hn, ht]
  obtain ⟨A, hA⟩ : ∃ A, rat c q = A := ⟨_, rfl⟩
  obtain ⟨B, hB⟩ : ∃ A, rat c (mom q) = A := ⟨_, rfl⟩
  rw [hA, hB] at mo
  rw [hA] at bt iQ ⊢
  rw [hB] at tp iM
  by_cases e1 : C = 1
  · subst e1
    have r1 := rmkI c (a := 1) hm
    have : gpL 1 t n = [(n, 1)] := by unfold gpL; exact if_pos rfl
    rw [this, List.map_cons, List.map_nil]
    dsimp only
    rw [di_self (by omega)]
    simp [F_gaps_between, env0, iQ, iM, mo, tp, bt, r1, hz]
  · by_cases e2 : n ≤ C
    · have r1 := rmk c (a := 1) (b := n) (k := 100) (by omega) nB (by decide) hm
      have : gpL C t n = [(1, n)] := by unfold gpL; rw [if_neg e1, if_pos e2]
      rw [this, List.map_cons, List.map_nil]
      simp [F_gaps_between, env0, iQ, iM, mo, tp, bt, r1, hz, e1, e2]
    · have g : Int.gcd t n = 1 := by
        have := (mom q).reduced
        rw [mr1, mr2] at this
        have e : n.natAbs = q.den := by omega
        unfold Int.gcd
        rw [e]; exact this
      have t0 : 0 ≤ t ∧ t < n := by rw [← ht]; exact mod_b (by omega)
      have t1 : 0 < t := by
        by_cases z : t = 0
        · rw [z, Int.gcd_zero_left] at g
          omega
        · omega
      have ns := ns_ok c m (C := C) (n := n) (t := t) (by omega) (by omega) hC nBd t1 t0.2 g
      obtain ⟨i, ib⟩ := nS_end (show C < n by omega) C.toNat 1 1 t (n - t) (NI.init (by omega) t1 t0.2 g) (by omega)
      have Ge : gpL C t n = gpS C (nS C C.toNat 1 1 t (n - t)) := by unfold gpL; rw [if_neg e1, if_neg e2]
      obtain ⟨⟨b, a, r, l⟩, hp⟩ : ∃ p, nS C C.toNat 1 1 t (n - t) = p := ⟨_, rfl⟩
      rw [hp] at ns i ib Ge
      dsimp only at ns i ib
      rw [Ge]
      unfold gpS
      dsimp only
      obtain ⟨S, hS⟩ : ∃ S, sortP (rws C b a r l) = S := ⟨_, rfl⟩
      rw [hS]
      have Sl : S.length ≤ 3 := by
        rw [← hS, show (sortP (rws C b a r l)).length = (rws C b a r l).length from (srtB_perm ltPP _).length_eq]
        unfold rws; split <;> simp
      have cm : ∀ y0 y1 y2 y4 y5 y6 y7 y8 y9, dCompL (dTupG 2 (dGcons (dName 10) (dGcons (dName 11) dGnil))) (I_gaps_between_1 c) (C_gaps_between_1 c) [y0, y1, y2, some (.int n), y4, y5, y6, y7, y8, y9, none, none] (S.map DL.prD) m [] = .ok ((S.filter fun p => decide (0 < p.2)).map fun p => .tup [rat c (Rat.divInt p.1 n), .int p.2]) m := fun y0 y1 y2 y4 y5 y6 y7 y8 y9 => by
        have q := compL_of (g := dTupG 2 (dGcons (dName 10) (dGcons (dName 11) dGnil))) (c := I_gaps_between_1 c) (b := C_gaps_between_1 c) (e := [y0, y1, y2, some (.int n), y4, y5, y6, y7, y8, y9, none, none]) (m := m) (F := DL.prD) (f := fun p => .tup [rat c (Rat.divInt p.1 n), .int p.2]) (p := fun p => decide (0 < p.2)) S [] (fun p _ => ⟨[y0, y1, y2, some (.int n), y4, y5, y6, y7, y8, y9, some (.int p.1), some (.int p.2)], by simp [DL.prD], by simp [I_gaps_between_1_ap], fun _ => by
          have r1 := rmk c (a := p.1) (b := n) (k := 100) (by omega) nB (by decide) hm
          simp [C_gaps_between_1_ap, r1, hz]⟩) (by simp [hz]; omega)
        rw [List.nil_append] at q
        exact q
      have sp : ∀ rows : List (Int × Int), rows = rws C b a r l → gSortP [.lst (rows.map DL.prD)] m = .ok (.lst (S.map DL.prD)) m := fun rows h => by rw [h, ← hS]; simp
      have i2 : mulOk 2 C = true := mulOk_lt (by omega) (by omega) hC.1 hC.2
      by_cases e : r = l
      · have sp := sp [(r, 2 * C - b - a), (r + l, b + a - C)] (by unfold rws; rw [if_pos e]; rfl)
        have sp : gSortP [.lst [.tup [.int r, .int (2 * C - b - a)], .tup [.int (r + l), .int (b + a - C)]]] m = .ok (.lst (S.map DL.prD)) m := sp
        subst e
        simp [F_gaps_between, env0, iQ, iM, mo, tp, bt, hz, e1, e2, ns, i2, -gSortP_ap, sp, cm, wipeE, scEq]
      · have sp := sp [(r, C - b), (l, C - a), (r + l, b + a - C)] (by unfold rws; rw [if_neg e]; rfl)
        have sp : gSortP [.lst [.tup [.int r, .int (C - b)], .tup [.int l, .int (C - a)], .tup [.int (r + l), .int (b + a - C)]]] m = .ok (.lst (S.map DL.prD)) m := sp
        simp [F_gaps_between, env0, iQ, iM, mo, tp, bt, hz, e1, e2, ns, i2, -gSortP_ap, sp, cm, wipeE, scEq, e]
end W

set_option maxHeartbeats 4000000
namespace W
open PySem PySem.Spec L2 DL
def gpX (C b a r l : Int) : List (Int × Int) := (if r = l then [(r, 2 * C - b - a)] else if r < l then [(r, C - b), (l, C - a)] else [(l, C - a), (r, C - b)]) ++ (if C < b + a then [(r + l, b + a - C)] else [])
theorem srtd_asc {ys : List (Int × Int)} (h : ys.Pairwise (fun x y => x.1 < y.1)) : SrtO.Srtd ltPP ys := h.imp fun {x y} h => by
  cases q : ltPP y x with
  | false => rfl
  | true =>
    have := SrtO.lexB_iff.mp q
    omega
theorem fpos {x n : Int} {L : List (Int × Int)} (h : 0 < n) : ((x, n) :: L).filter (fun p : Int × Int => decide (0 < p.2)) = (x, n) :: L.filter (fun p : Int × Int => decide (0 < p.2)) := List.filter_cons_of_pos (decide_eq_true h)
theorem fneg {x n : Int} {L : List (Int × Int)} (h : ¬ 0 < n) : ((x, n) :: L).filter (fun p : Int × Int => decide (0 < p.2)) = L.filter (fun p : Int × Int => decide (0 < p.2)) := List.filter_cons_of_neg (by simpa using h)
theorem gpS_eq {C n b a r l : Int} (h : NI C n b a r l) (hb : ¬ b + a < C) : gpS C (b, a, r, l) = gpX C b a r l := by
  have r1 := h.r1
  have l1 := h.l1
  have bc := h.bc
  have ac := h.ac
  unfold gpS gpX rws
  dsimp only
  by_cases e : r = l
  · rw [if_pos e, if_pos e]
    have u : [(r, 2 * C - b - a), (r + l, b + a - C)] = sortP ([(r, 2 * C - b - a)] ++ [(r + l, b + a - C)]) := sortP_uniq (List.Perm.refl _) (srtd_asc (by simp; omega))
    rw [← u, fpos (show 0 < 2 * C - b - a by omega)]
    by_cases z : C < b + a
    · rw [if_pos z, fpos (show 0 < b + a - C by omega)]; rfl
    · rw [if_neg z, fneg (show ¬ 0 < b + a - C by omega)]; rfl
  · rw [if_neg e, if_neg e]
    by_cases f : r < l
    · rw [if_pos f]
      have u : [(r, C - b), (l, C - a), (r + l, b + a - C)] = sortP ([(r, C - b), (l, C - a)] ++ [(r + l, b + a - C)]) := sortP_uniq (List.Perm.refl _) (srtd_asc (by simp; omega))
      rw [← u, fpos (show 0 < C - b by omega), fpos (show 0 < C - a by omega)]
      by_cases z : C < b + a
      · rw [if_pos z, fpos (show 0 < b + a - C by omega)]; rfl
      · rw [if_neg z, fneg (show ¬ 0 < b + a - C by omega)]; rfl
    · rw [if_neg f]
      have u : [(l, C - a), (r, C - b), (r + l, b + a - C)] = sortP ([(r, C - b), (l, C - a)] ++ [(r + l, b + a - C)]) := sortP_uniq (List.Perm.swap _ _ _) (srtd_asc (by simp; omega))
      rw [← u, fpos (show 0 < C - a by omega), fpos (show 0 < C - b by omega)]
      by_cases z : C < b + a
      · rw [if_pos z, fpos (show 0 < b + a - C by omega)]; rfl
      · rw [if_neg z, fneg (show ¬ 0 < b + a - C by omega)]; rfl
end W

set_option maxHeartbeats 4000000
namespace W
open PySem PySem.Spec L2 DL
/-- what the rows of the gaps are -/
structure RowsOk (C n : Int) (L : List (Int × Int)) : Prop where
  len : 1 ≤ L.length ∧ L.length ≤ 3
  pos : ∀ p ∈ L, 1 ≤ p.1 ∧ 1 ≤ p.2
  cnt : (L.map (·.2)).sum = (if C < n then C else n)
  wid : (L.map fun p => p.1 * p.2).sum = n
  asc : (L.map (·.1)).Pairwise (· < ·)
  three : ∀ x y z, L.map (·.1) = [x, y, z] → z = x + y
theorem gpX_ok {C n b a r l : Int} (h : NI C n b a r l) (cn : C < n) (hb : ¬ b + a < C) : RowsOk C n (gpX C b a r l) := by
  have r1 := h.r1
  have l1 := h.l1
  have bc := h.bc
  have ac := h.ac
  have e := h.eq
  unfold gpX
  by_cases q : r = l
  · have g := h.g
    rw [q, Int.gcd_self] at g
    have l1 : l = 1 := by omega
    subst q
    subst l1
    rw [if_pos rfl]
    by_cases z : C < b + a
    · rw [if_pos z]
      exact ⟨by simp, by simp; omega, by simp [cn]; omega, by simp; omega, by simp, by simp⟩
    · rw [if_neg z]
      exact ⟨by simp, by simp; omega, by simp [cn]; omega, by simp; omega, by simp, by simp⟩
  · rw [if_neg q]
    by_cases f : r < l
    · rw [if_pos f]
      by_cases z : C < b + a
      · rw [if_pos z]
        exact ⟨by simp, by simp; omega, by simp [cn]; omega, by simp; grind, by simp; omega, fun x y z h => by simp at h; omega⟩
      · rw [if_neg z]
        have : C = b + a := by omega
        exact ⟨by simp, by simp; omega, by simp [cn]; omega, by simp; grind, by simp; omega, fun x y z h => by simp at h⟩
    · rw [if_neg f]
      by_cases z : C < b + a
      · rw [if_pos z]
        exact ⟨by simp, by simp; omega, by simp [cn]; omega, by simp; grind, by simp; omega, fun x y z h => by simp at h; omega⟩
      · rw [if_neg z]
        have : C = b + a := by omega
        exact ⟨by simp, by simp; omega, by simp [cn]; omega, by simp; grind, by simp; omega, fun x y z h => by simp at h⟩
end W

set_option maxHeartbeats 4000000
namespace W
open PySem PySem.Spec L2 DL
/-- the rows, what they are, the least way, the last of them -/
theorem gpL_ok {C t n : Int} (h1 : 1 ≤ C) (n1 : 1 ≤ n) (ht0 : 0 ≤ t) (ht1 : t < n) (g : Int.gcd t n = 1) : RowsOk C n (gpL C t n) ∧
    (∀ k, 1 ≤ k → k < C → k * t % n ≠ 0 → ∀ x, ((gpL C t n).map (·.1)).head? = some x → x ≤ k * t % n ∧ x ≤ n - k * t % n) ∧
    ((gpL C t n).map (·.1)).getLast? = some (Gn C t n) := by
  unfold gpL Gn
  by_cases e1 : C = 1
  · rw [if_pos e1, if_pos e1]
    subst e1
    exact ⟨⟨by simp, by simp; omega, by simp; omega, by simp, by simp, by simp⟩, fun k _ _ => by omega, by simp⟩
  · rw [if_neg e1, if_neg e1]
    by_cases e2 : n ≤ C
    · rw [if_pos e2, if_pos e2]
      refine ⟨⟨by simp, by simp; omega, by simp; omega, by simp, by simp, by simp⟩, fun k k1 k2 nz x hx => ?_, by simp⟩
      simp at hx
      have m0 := Int.emod_nonneg (k * t) (show n ≠ 0 by omega)
      have m1 := Int.emod_lt_of_pos (k * t) (show 0 < n by omega)
      omega
    · rw [if_neg e2, if_neg e2]
      have t1 : 0 < t := by
        by_cases z : t = 0
        · rw [z, Int.gcd_zero_left] at g
          omega
        · omega
      obtain ⟨i, ib⟩ := nS_end (show C < n by omega) C.toNat 1 1 t (n - t) (NI.init (by omega) t1 ht1 g) (by omega)
      have d := nS_dvd (c := C) C.toNat 1 1 t (n - t) (NJ.init n t)
      obtain ⟨⟨b, a, r, l⟩, hp⟩ : ∃ p, nS C C.toNat 1 1 t (n - t) = p := ⟨_, rfl⟩
      rw [hp] at i ib d ⊢
      dsimp only at i ib d
      rw [gpS_eq i ib]
      refine ⟨gpX_ok i (by omega) ib, fun k k1 k2 nz x hx => ?_, ?_⟩
      · obtain ⟨w1, w2⟩ := way_least (by omega) i d (by omega) k1 k2
        have xm : x ≤ r ∧ x ≤ l := by
          unfold gpX at hx
          split at hx
          · simp at hx; omega
          · split at hx <;> (simp at hx; omega)
        omega
      · unfold gpX gG
        dsimp only
        by_cases z : C < b + a
        · rw [if_pos z, if_pos z]
          simp
        · rw [if_neg z, if_neg z]
          by_cases q : r = l
          · rw [if_pos q]; simp; omega
          · rw [if_neg q]
            by_cases f : r < l
            · rw [if_pos f]; simp; omega
            · rw [if_neg f]; simp; omega
end W

set_option maxHeartbeats 4000000
namespace W
open PySem PySem.Spec L2 DL
/-! ### the gaps of an ascending list of spots on a cycle -/
/-- differences of neighbours, then the way from the last to the first -/
def dfs : List Int → List Int
  | [] => []
  | [_] => []
  | x :: y :: t => (y - x) :: dfs (y :: t)
def wideL (n : Int) (S : List Int) : List Int := dfs S ++ [(S.head?.getD 0) + n - (S.getLast?.getD 0)]
theorem lastD_cons (x y : Int) (t : List Int) : (x :: y :: t).getLast?.getD 0 = (y :: t).getLast?.getD 0 := by
  rw [List.getLast?_cons_cons]
theorem last_in : ∀ (x : Int) (t : List Int), (x :: t).getLast?.getD 0 ∈ x :: t
  | x, [] => by simp
  | x, y :: t => by
    rw [lastD_cons]
    exact List.mem_cons_of_mem _ (last_in y t)
theorem last_ge : ∀ (x : Int) (t : List Int), (x :: t).Pairwise (· < ·) → ∀ s ∈ x :: t, s ≤ (x :: t).getLast?.getD 0
  | x, [], _, s, hs => by simp at hs; simp [hs]
  | x, y :: t, h, s, hs => by
    rw [lastD_cons]
    have h2 := List.pairwise_cons.mp h
    rcases List.mem_cons.mp hs with rfl | hs
    · have := last_ge y t h2.2 y (by simp)
      have := h2.1 y (by simp)
      omega
    · exact last_ge y t h2.2 s hs
/-- neighbours: what is met next from each spot -/
theorem dfs_map {W : Int → Int} {n : Int} {A : List Int} (hA : ∀ s ∈ A, 0 ≤ s ∧ s < n)
    (hw : ∀ s ∈ A, 1 ≤ W s) (hin : ∀ s ∈ A, s + W s < n → s + W s ∈ A) (hno : ∀ s ∈ A, ∀ s' ∈ A, s < s' → s + W s ≤ s') :
    ∀ (x : Int) (t : List Int), (∀ s ∈ x :: t, s ∈ A) → (∀ s ∈ A, x ≤ s → s ∈ x :: t) → (x :: t).Pairwise (· < ·) → dfs (x :: t) = ((x :: t).dropLast).map W
  | x, [], _, _, _ => rfl
  | x, y :: t, hs, hm, hp => by
    have h2 := List.pairwise_cons.mp hp
    have xA := hs x (by simp)
    have yA := hs y (by simp)
    have xy := h2.1 y (by simp)
    have ih := dfs_map hA hw hin hno y t (fun s h => hs s (by simp [h])) (fun s h1 h2' => by
      rcases List.mem_cons.mp (hm s h1 (by omega)) with rfl | h
      · omega
      · exact h) h2.2
    rw [dfs, ih, List.dropLast_cons₂, List.map_cons]
    congr 1
    have a := hno x xA y yA xy
    have b := hin x xA (by have := (hA y yA).2; omega)
    have w := hw x xA
    have : x + W x ∈ x :: y :: t := hm _ b (by omega)
    rcases List.mem_cons.mp this with h | h
    · omega
    · rcases List.mem_cons.mp h with h | h
      · omega
      · have := (List.pairwise_cons.mp h2.2).1 _ h
        omega
theorem wide_map {W : Int → Int} {n x : Int} {t : List Int} (hA : ∀ s ∈ x :: t, 0 ≤ s ∧ s < n) (hp : (x :: t).Pairwise (· < ·))
    (hw : ∀ s ∈ x :: t, 1 ≤ W s ∧ W s ≤ n) (hin : ∀ s ∈ x :: t, (s + W s) % n ∈ x :: t) (hno : ∀ s ∈ x :: t, ∀ s' ∈ x :: t, s ≠ s' → W s ≤ (s' - s) % n) :
    wideL n (x :: t) = (x :: t).map W := by
  have n0 : 0 < n := by have := hA x (by simp); omega
  have up : ∀ {s s' : Int}, 0 ≤ s → s' < n → s < s' → (s' - s) % n = s' - s := fun h1 h2 h3 => Int.emod_eq_of_lt (by omega) (by omega)
  have dn : ∀ {s s' : Int}, 0 ≤ s → s' < n → s < s' → (s - s') % n = s + n - s' := fun {s s'} h1 h2 h3 => by
    rw [show s - s' = (s + n - s') + n * (-1) by omega, Int.add_mul_emod_self_left]
    exact Int.emod_eq_of_lt (by omega) (by omega)
  unfold wideL
  rw [dfs_map (A := x :: t) (W := W) (n := n) hA (fun s h => (hw s h).1) (fun s h h1 => by
      have := hin s h
      rwa [Int.emod_eq_of_lt (by have := hA s h; have := (hw s h).1; omega) h1] at this) (fun s h s' h' l => by
      have := hno s h s' h' (by omega)
      rw [up (hA s h).1 (hA s' h').2 l] at this
      omega) x t (fun s h => h) (fun s h _ => h) hp]
  obtain ⟨z, hz⟩ : ∃ z, (x :: t).getLast?.getD 0 = z := ⟨_, rfl⟩
  have zi := last_in x t
  have zg := last_ge x t hp
  rw [hz] at zi zg ⊢
  have e : (x :: t) = (x :: t).dropLast ++ [z] := by
    obtain ⟨T, hT⟩ : ∃ T, (x :: t) = T ++ [z] := by
      cases h : (x :: t).getLast? with
      | none => simp at h
      | some q =>
        obtain ⟨T, hT⟩ := List.getLast?_eq_some_iff.mp h
        rw [h] at hz
        simp at hz
        exact ⟨T, by rw [hT, hz]⟩
    rw [hT, List.dropLast_concat]
  conv => rhs; rw [e, List.map_append]
  congr 1
  simp only [List.head?_cons, Option.getD_some, List.map_cons, List.map_nil]
  congr 1
  have xa := hA x (by simp)
  have za := hA z zi
  have wz := hw z zi
  have iz := hin z zi
  by_cases c : z + W z < n
  · rw [Int.emod_eq_of_lt (by omega) c] at iz
    have := zg _ iz
    omega
  · have m : (z + W z) % n = z + W z - n := by
      obtain ⟨y, hy⟩ : ∃ y, z + W z - n = y := ⟨_, rfl⟩
      rw [show z + W z = y + n * 1 by omega, Int.add_mul_emod_self_left, show y + n * 1 - n = y by omega]
      exact Int.emod_eq_of_lt (by omega) (by omega)
    rw [m] at iz
    have xl : x ≤ z + W z - n := by
      rcases List.mem_cons.mp iz with h | h
      · omega
      · have := (List.pairwise_cons.mp hp).1 _ h
        omega
    by_cases xz : x = z
    · subst xz; omega
    · have := hno z zi x (by simp) (fun h => xz h.symm)
      have l : x < z := by
        have := zg x (by simp)
        omega
      rw [dn xa.1 za.2 l] at this
      omega
end W

set_option maxHeartbeats 4000000
namespace W
open PySem PySem.Spec L2 DL
/-! ### what is met next from the moment of i steps -/
def gk (C b a r l k : Int) : Int := if k + b < C then r else if a ≤ k then l else r + l
theorem mod_is {n x y : Int} (h : n ∣ x - y) (h0 : 0 ≤ y) (h1 : y < n) : x % n = y := by
  obtain ⟨z, hz⟩ := h
  rw [show x = y + n * z by omega, Int.add_mul_emod_self_left]
  exact Int.emod_eq_of_lt h0 h1
theorem mod_dv (x : Int) (n : Int) : n ∣ x - x % n := ⟨x / n, by have := Int.emod_add_mul_ediv x n; omega⟩
theorem gk_ok {c n t b a r l : Int} (n0 : 0 < n) (hi : NI c n b a r l) (hj : NJ n t b a r l) (hc : ¬ b + a < c) {i : Int} (i0 : 0 ≤ i) (i1 : i < c) :
    (1 ≤ gk c b a r l i ∧ gk c b a r l i ≤ n) ∧ (∃ j, 0 ≤ j ∧ j < c ∧ n ∣ (i * t + gk c b a r l i) - j * t) ∧ ∀ j, 0 ≤ j → j < c → j ≠ i → gk c b a r l i ≤ ((j - i) * t) % n := by
  have b1 := hi.b1; have a1 := hi.a1; have r1 := hi.r1; have l1 := hi.l1; have bc := hi.bc; have ac := hi.ac
  have eq := hi.eq
  have p1 : 1 * l ≤ b * l := Int.mul_le_mul_of_nonneg_right b1 (by omega)
  have p2 : 1 * r ≤ a * r := Int.mul_le_mul_of_nonneg_right a1 (by omega)
  obtain ⟨z1, hz1⟩ := hj.r
  obtain ⟨z2, hz2⟩ := hj.l
  have LW := fun {k : Int} (k1 : 1 ≤ k) (k2 : k < c) => way_least n0 hi hj (by omega) k1 k2
  have nn : ∀ x : Int, 0 ≤ x % n ∧ x % n < n := fun x => ⟨Int.emod_nonneg _ (by omega), Int.emod_lt_of_pos _ n0⟩
  -- backwards
  have neg : ∀ {k : Int}, 1 ≤ k → k < c → (-k * t) % n = n - k * t % n := fun {k} k1 k2 => by
    have w := LW k1 k2
    have m := nn (k * t)
    obtain ⟨z, hz⟩ := mod_dv (k * t) n
    refine mod_is ⟨-z - 1, ?_⟩ (by omega) (by omega)
    grind
  unfold gk
  by_cases c1 : i + b < c
  · rw [if_pos c1]
    refine ⟨⟨r1, by omega⟩, ⟨i + b, by omega, by omega, ⟨z1, by grind⟩⟩, fun j j0 j1 ne => ?_⟩
    by_cases g : i < j
    · exact (LW (k := j - i) (by omega) (by omega)).1
    · have w := LW (k := i - j) (by omega) (by omega)
      have e := neg (k := i - j) (by omega) (by omega)
      rw [show -(i - j) * t = (j - i) * t by grind] at e
      rw [e]
      have m := nn ((i - j) * t)
      obtain ⟨z, hz⟩ := mod_dv ((i - j) * t) n
      obtain ⟨M, hM⟩ : ∃ M, (i - j) * t % n = M := ⟨_, rfl⟩
      rw [hM] at w m hz ⊢
      by_cases q : r ≤ n - M
      · exact q
      · exfalso
        have w2 := (LW (k := b + (i - j)) (by omega) (by omega)).1
        have e2 : (b + (i - j)) * t % n = r - (n - M) := mod_is ⟨z - z1 + 1, by grind⟩ (by omega) (by omega)
        omega
  · rw [if_neg c1]
    by_cases c2 : a ≤ i
    · rw [if_pos c2]
      refine ⟨⟨l1, by omega⟩, ⟨i - a, by omega, by omega, ⟨z2, by grind⟩⟩, fun j j0 j1 ne => ?_⟩
      by_cases g : i < j
      · have w := LW (k := j - i) (by omega) (by omega)
        have m := nn ((j - i) * t)
        obtain ⟨z, hz⟩ := mod_dv ((j - i) * t) n
        obtain ⟨M, hM⟩ : ∃ M, (j - i) * t % n = M := ⟨_, rfl⟩
        rw [hM] at w m hz ⊢
        by_cases q : l ≤ M
        · exact q
        · exfalso
          have w2 := (LW (k := a + (j - i)) (by omega) (by omega)).2
          have e2 : (a + (j - i)) * t % n = n - (l - M) := mod_is ⟨z2 + z - 1, by grind⟩ (by omega) (by omega)
          omega
      · have w := LW (k := i - j) (by omega) (by omega)
        have e := neg (k := i - j) (by omega) (by omega)
        rw [show -(i - j) * t = (j - i) * t by grind] at e
        rw [e]
        exact w.2
    · rw [if_neg c2]
      refine ⟨⟨by omega, by omega⟩, ⟨i + b - a, by omega, by omega, ⟨z1 + z2, by grind⟩⟩, fun j j0 j1 ne => ?_⟩
      by_cases g : i < j
      · have w := LW (k := j - i) (by omega) (by omega)
        have m := nn ((j - i) * t)
        obtain ⟨z, hz⟩ := mod_dv ((j - i) * t) n
        obtain ⟨M, hM⟩ : ∃ M, (j - i) * t % n = M := ⟨_, rfl⟩
        rw [hM] at w m hz ⊢
        by_cases q : r + l ≤ M
        · exact q
        · exfalso
          have w2 := LW (k := b - (j - i)) (by omega) (by omega)
          by_cases s : M = r
          · have e2 : (b - (j - i)) * t % n = 0 := mod_is ⟨-z1 - z, by grind⟩ (by omega) (by omega)
            omega
          · have e2 : (b - (j - i)) * t % n = n - (M - r) := mod_is ⟨-z1 - z - 1, by grind⟩ (by omega) (by omega)
            omega
      · have w := LW (k := i - j) (by omega) (by omega)
        have e := neg (k := i - j) (by omega) (by omega)
        rw [show -(i - j) * t = (j - i) * t by grind] at e
        rw [e]
        have m := nn ((i - j) * t)
        obtain ⟨z, hz⟩ := mod_dv ((i - j) * t) n
        obtain ⟨M, hM⟩ : ∃ M, (i - j) * t % n = M := ⟨_, rfl⟩
        rw [hM] at w m hz ⊢
        by_cases q : r + l ≤ n - M
        · exact q
        · exfalso
          have w2 := (LW (k := a - (i - j)) (by omega) (by omega)).1
          have e2 : (a - (i - j)) * t % n = (n - M) - l := mod_is ⟨z2 - z - 1, by grind⟩ (by omega) (by omega)
          omega
end W

set_option maxHeartbeats 4000000
namespace W
open PySem PySem.Spec L2 DL
/-! ### rows of widths -/
def rowsW (wide : List Int) : List (Int × Int) := (setI wide).map fun w => (w, (wide.count w : Int))
theorem rows_is {wide : List Int} {G : List (Int × Int)} (asc : (G.map (·.1)).Pairwise (· < ·)) (h1 : ∀ p ∈ G, (wide.count p.1 : Int) = p.2 ∧ 1 ≤ p.2) (h2 : ∀ w ∈ wide, w ∈ G.map (·.1)) : rowsW wide = G := by
  have e : setI wide = G.map (·.1) := asc_uniq (setI_asc _) asc fun k => by
    rw [setI_mem]
    refine ⟨h2 k, fun hk => ?_⟩
    obtain ⟨p, hp, rfl⟩ := List.mem_map.mp hk
    have := h1 p hp
    exact List.count_pos_iff.mp (by omega)
  unfold rowsW
  rw [e, List.map_map]
  conv => rhs; rw [← List.map_id G]
  refine List.map_congr_left fun p hp => ?_
  show (p.1, ((wide.count p.1 : Nat) : Int)) = p
  rw [(h1 p hp).1]
theorem seg_rep {f : Nat → Int} {v : Int} {s m : Nat} (h : ∀ k, s ≤ k → k < s + m → f k = v) : (List.range' s m).map f = List.replicate m v := by
  refine List.eq_replicate_iff.mpr ⟨by simp, fun x hx => ?_⟩
  obtain ⟨k, hk, rfl⟩ := List.mem_map.mp hx
  rw [List.mem_range'_1] at hk
  exact h k hk.1 hk.2
/-- how many of each -/
theorem gk_count {c n b a r l : Int} {C : Nat} (hC : (C : Int) = c) (hi : NI c n b a r l) (hc : ¬ b + a < c) (w : Int) :
    ((((List.range C).map fun k : Nat => gk c b a r l k).count w : Nat) : Int) = (if r = w then c - b else 0) + (if r + l = w then b + a - c else 0) + (if l = w then c - a else 0) := by
  have b1 := hi.b1; have a1 := hi.a1; have bc := hi.bc; have ac := hi.ac
  obtain ⟨A, hA⟩ : ∃ A : Nat, (A : Int) = a := ⟨a.toNat, by omega⟩
  obtain ⟨B, hB⟩ : ∃ A : Nat, (A : Int) = b := ⟨b.toNat, by omega⟩
  have sp : List.range C = List.range' 0 (C - B) ++ (List.range' (C - B) (A + B - C) ++ List.range' A (C - A)) := by
    rw [List.range_eq_range']
    rw [show List.range' A (C - A) = List.range' ((C - B) + (A + B - C)) (C - A) from by rw [show (C - B) + (A + B - C) = A by omega], List.range'_append_1]
    rw [show List.range' (C - B) (A + B - C + (C - A)) = List.range' (0 + (C - B)) (A + B - C + (C - A)) from by rw [Nat.zero_add], List.range'_append_1]
    rw [show C - B + (A + B - C + (C - A)) = C by omega]
  rw [sp, List.map_append, List.map_append]
  rw [seg_rep (v := r) (s := 0) (m := C - B) (fun k h1 h2 => by unfold gk; exact if_pos (by omega))]
  rw [seg_rep (v := r + l) (s := C - B) (m := A + B - C) (fun k h1 h2 => by unfold gk; rw [if_neg (by omega)]; exact if_neg (by omega))]
  rw [seg_rep (v := l) (s := A) (m := C - A) (fun k h1 h2 => by unfold gk; rw [if_neg (by omega)]; exact if_pos (by omega))]
  rw [List.count_append, List.count_append, List.count_replicate, List.count_replicate, List.count_replicate]
  simp only [beq_iff_eq]
  split <;> split <;> split <;> omega
theorem gk_rows {c n b a r l : Int} {C : Nat} {wide : List Int} (hC : (C : Int) = c) (hi : NI c n b a r l) (hc : ¬ b + a < c) (hp : wide.Perm ((List.range C).map fun k : Nat => gk c b a r l k)) : rowsW wide = gpX c b a r l := by
  have b1 := hi.b1; have a1 := hi.a1; have bc := hi.bc; have ac := hi.ac; have r1 := hi.r1; have l1 := hi.l1
  have cnt : ∀ w, ((wide.count w : Nat) : Int) = (if r = w then c - b else 0) + (if r + l = w then b + a - c else 0) + (if l = w then c - a else 0) := fun w => by
    rw [hp.count_eq, gk_count hC hi hc]
  have mem : ∀ w ∈ wide, w = r ∨ w = l ∨ (w = r + l ∧ c < b + a) := fun w hw => by
    have h1 := List.count_pos_iff.mpr hw
    have h2 := cnt w
    by_cases e1 : r = w
    · exact .inl e1.symm
    · by_cases e2 : l = w
      · exact .inr (.inl e2.symm)
      · by_cases e3 : r + l = w
        · rw [if_neg e1, if_pos e3, if_neg e2] at h2
          exact .inr (.inr ⟨e3.symm, by omega⟩)
        · rw [if_neg e1, if_neg e3, if_neg e2] at h2
          omega
  have cr := cnt r
  have cl := cnt l
  have cs := cnt (r + l)
  rw [if_pos rfl, if_neg (by omega)] at cr
  rw [if_neg (by omega : ¬ r + l = l), if_pos rfl] at cl
  rw [if_neg (by omega), if_pos rfl, if_neg (by omega)] at cs
  unfold gpX
  by_cases e : r = l
  · rw [if_pos e]
    rw [if_pos e.symm] at cr
    by_cases z : c < b + a
    · rw [if_pos z]
      refine rows_is (by simp; omega) (fun p hp => ?_) fun w hw => ?_
      · simp at hp
        rcases hp with rfl | rfl
        · dsimp only; omega
        · dsimp only; omega
      · have := mem w hw
        simp; omega
    · rw [if_neg z]
      refine rows_is (by simp) (fun p hp => ?_) fun w hw => ?_
      · simp at hp
        subst hp
        dsimp only; omega
      · have := mem w hw
        simp; omega
  · rw [if_neg e]
    rw [if_neg (fun h => e h.symm)] at cr
    rw [if_neg e] at cl
    by_cases f : r < l
    · rw [if_pos f]
      by_cases z : c < b + a
      · rw [if_pos z]
        refine rows_is (by simp; omega) (fun p hp => ?_) fun w hw => ?_
        · simp at hp
          rcases hp with rfl | rfl | rfl
          · dsimp only; omega
          · dsimp only; omega
          · dsimp only; omega
        · have := mem w hw
          simp; omega
      · rw [if_neg z]
        refine rows_is (by simp; omega) (fun p hp => ?_) fun w hw => ?_
        · simp at hp
          rcases hp with rfl | rfl
          · dsimp only; omega
          · dsimp only; omega
        · have := mem w hw
          simp; omega
    · rw [if_neg f]
      by_cases z : c < b + a
      · rw [if_pos z]
        refine rows_is (by simp; omega) (fun p hp => ?_) fun w hw => ?_
        · simp at hp
          rcases hp with rfl | rfl | rfl
          · dsimp only; omega
          · dsimp only; omega
          · dsimp only; omega
        · have := mem w hw
          simp; omega
      · rw [if_neg z]
        refine rows_is (by simp; omega) (fun p hp => ?_) fun w hw => ?_
        · simp at hp
          rcases hp with rfl | rfl
          · dsimp only; omega
          · dsimp only; omega
        · have := mem w hw
          simp; omega
end W

set_option maxHeartbeats 4000000
namespace W
open PySem PySem.Spec L2 DL
/-- the spots of so many moments -/
def spotsL (C : Nat) (T n : Int) : List Int := setI ((List.range C).map fun k : Nat => T * (k : Int) % n)
theorem sub_up {s s' n : Int} (h1 : 0 ≤ s) (h2 : s' < n) (h3 : s ≤ s') : (s' - s) % n = s' - s := Int.emod_eq_of_lt (by omega) (by omega)
theorem sub_dn {s s' n : Int} (h1 : 0 ≤ s) (h2 : s' < n) (h3 : s < s') : (s - s') % n = s + n - s' := by
  rw [show s - s' = (s + n - s') + n * (-1) by omega, Int.add_mul_emod_self_left]
  exact Int.emod_eq_of_lt (by omega) (by omega)
theorem nodup_map {f : Nat → Int} {N : Nat} (h : ∀ i j, i < j → j < N → f i ≠ f j) : ((List.range N).map f).Nodup := by
  refine List.pairwise_map.mpr ?_
  refine List.Pairwise.imp_of_mem (R := fun a b => a < b) (fun {a b} ha hb hab => ?_) List.pairwise_lt_range
  exact h a b hab (List.mem_range.mp hb)
/-- all spots are met -/
theorem all_met {t n : Int} (n1 : 1 ≤ n) (t0 : 0 ≤ t) (g : Int.gcd t n = 1) {x : Int} (x0 : 0 ≤ x) (x1 : x < n) : ∃ k : Nat, (k : Int) < n ∧ t * (k : Int) % n = x := by
  obtain ⟨N, hN⟩ : ∃ N : Nat, (N : Int) = n := ⟨n.toNat, by omega⟩
  have nd : ((List.range N).map fun k : Nat => t * (k : Int) % n).Nodup := nodup_map fun i j ij jN e => by
    have d : n ∣ t * ((j : Int) - i) := by
      obtain ⟨p, hp⟩ := mod_dv (t * (i : Int)) n
      obtain ⟨q, hq⟩ := mod_dv (t * (j : Int)) n
      exact ⟨q - p, by grind⟩
    have d2 : n.natAbs ∣ (t * ((j : Int) - i)).natAbs := Int.natAbs_dvd_natAbs.mpr d
    rw [Int.natAbs_mul] at d2
    have cp : Nat.Coprime n.natAbs t.natAbs := by
      unfold Nat.Coprime
      rw [Nat.gcd_comm]
      exact g
    have d3 := cp.dvd_of_dvd_mul_left d2
    have := Nat.le_of_dvd (by omega) d3
    omega
  have sub : ∀ y ∈ (List.range N).map (fun k : Nat => t * (k : Int) % n), y ∈ (List.range N).map fun k : Nat => (k : Int) := fun y hy => by
    obtain ⟨k, _, rfl⟩ := List.mem_map.mp hy
    have m := mod_b (a := t * (k : Int)) (n := n) (by omega)
    exact List.mem_map.mpr ⟨(t * (k : Int) % n).toNat, List.mem_range.mpr (by omega), by omega⟩
  by_cases h : x ∈ (List.range N).map fun k : Nat => t * (k : Int) % n
  · obtain ⟨k, hk, e⟩ := List.mem_map.mp h
    exact ⟨k, by have := List.mem_range.mp hk; omega, e⟩
  · exfalso
    have l := List.Nodup.length_le_of_subset (l₁ := x :: (List.range N).map fun k : Nat => t * (k : Int) % n) (l₂ := (List.range N).map fun k : Nat => (k : Int)) (List.nodup_cons.mpr ⟨h, nd⟩) (fun y hy => by
      rcases List.mem_cons.mp hy with rfl | hy
      · exact List.mem_map.mpr ⟨y.toNat, List.mem_range.mpr (by omega), by omega⟩
      · exact sub y hy)
    simp at l
    omega
theorem rows_gap {C : Nat} {t n : Int} (h1 : 1 ≤ C) (n1 : 1 ≤ n) (t0 : 0 ≤ t) (t1 : t < n) (g : Int.gcd t n = 1) : rowsW (wideL n (spotsL C t n)) = gpL C t n := by
  have b := fun k : Nat => mod_b (a := t * (k : Int)) (n := n) (by omega)
  have memS : ∀ x, x ∈ spotsL C t n ↔ ∃ k, k < C ∧ t * (k : Int) % n = x := fun x => by
    unfold spotsL
    rw [setI_mem, List.mem_map]
    exact ⟨fun ⟨k, hk, e⟩ => ⟨k, List.mem_range.mp hk, e⟩, fun ⟨k, hk, e⟩ => ⟨k, List.mem_range.mpr hk, e⟩⟩
  have ascS : (spotsL C t n).Pairwise (· < ·) := setI_asc _
  have z0 : (0 : Int) ∈ spotsL C t n := (memS 0).mpr ⟨0, by omega, by simp⟩
  obtain ⟨x, T, hS⟩ : ∃ x T, spotsL C t n = x :: T := by
    cases h : spotsL C t n with
    | nil => rw [h] at z0; simp at z0
    | cons x T => exact ⟨x, T, rfl⟩
  have rg : ∀ s ∈ spotsL C t n, 0 ≤ s ∧ s < n := fun s hs => by
    obtain ⟨k, _, rfl⟩ := (memS s).mp hs
    exact b k
  by_cases e1 : C = 1
  · subst e1
    have : spotsL 1 t n = [0] := by unfold spotsL; simp [setI, insU]
    rw [this]
    unfold gpL
    rw [if_pos (by rfl)]
    refine rows_is (by simp) (fun p hp => ?_) fun w hw => ?_
    · simp at hp
      subst hp
      simp [wideL, dfs]
    · simp [wideL, dfs] at hw
      simp; omega
  by_cases e2 : n ≤ C
  · rw [show gpL C t n = [(1, n)] from by unfold gpL; rw [if_neg (by omega), if_pos e2]]
    have all : ∀ s, 0 ≤ s → s < n → s ∈ spotsL C t n := fun s h0 h1 => by
      obtain ⟨k, hk, e⟩ := all_met n1 t0 g h0 h1
      exact (memS s).mpr ⟨k, by omega, e⟩
    have wm : wideL n (spotsL C t n) = (spotsL C t n).map fun _ => 1 := by
      rw [hS] at rg ascS all ⊢
      refine wide_map (W := fun _ => 1) rg ascS (fun _ _ => ⟨by omega, n1⟩) (fun s hs => ?_) fun s hs s' hs' ne => ?_
      · have m := mod_b (a := s + 1) (n := n) (by omega)
        exact all _ m.1 m.2
      · have q := rg s hs
        have q' := rg s' hs'
        show 1 ≤ (s' - s) % n
        by_cases l : s ≤ s'
        · rw [sub_up q.1 q'.2 l]; omega
        · rw [sub_dn q'.1 q.2 (by omega)]; omega
    have len : ((spotsL C t n).length : Int) = n := by
      obtain ⟨N, hN⟩ : ∃ N : Nat, (N : Int) = n := ⟨n.toNat, by omega⟩
      have e : spotsL C t n = (List.range N).map fun k : Nat => (k : Int) := asc_uniq ascS (List.pairwise_map.mpr (List.pairwise_lt_range.imp fun h => by omega)) fun k => by
        refine ⟨fun hk => ?_, fun hk => ?_⟩
        · have := rg k hk
          exact List.mem_map.mpr ⟨k.toNat, List.mem_range.mpr (by omega), by omega⟩
        · obtain ⟨j, hj, rfl⟩ := List.mem_map.mp hk
          have := List.mem_range.mp hj
          exact all _ (by omega) (by omega)
      rw [e, List.length_map, List.length_range, hN]
    have rep : ((spotsL C t n).map fun _ => (1 : Int)) = List.replicate (spotsL C t n).length 1 := List.map_const' ..
    rw [wm, rep]
    refine rows_is (by simp) (fun p hp => ?_) fun w hw => ?_
    · simp at hp
      subst hp
      dsimp only
      rw [List.count_replicate_self]
      omega
    · have := List.eq_of_mem_replicate hw
      simp [this]
  · have tp : 0 < t := by
      by_cases z : t = 0
      · rw [z, Int.gcd_zero_left] at g
        omega
      · omega
    obtain ⟨i, ib⟩ := nS_end (show (C : Int) < n by omega) (C : Int).toNat 1 1 t (n - t) (NI.init (by omega) tp t1 g) (by omega)
    have d := nS_dvd (c := (C : Int)) (C : Int).toNat 1 1 t (n - t) (NJ.init n t)
    have Ge : gpL C t n = gpS C (nS C (C : Int).toNat 1 1 t (n - t)) := by unfold gpL; rw [if_neg (by omega), if_neg e2]
    obtain ⟨⟨bb, a, r, l⟩, hp⟩ : ∃ p, nS (C : Int) (C : Int).toNat 1 1 t (n - t) = p := ⟨_, rfl⟩
    rw [hp] at i ib d Ge
    dsimp only at i ib d
    rw [Ge, gpS_eq i ib]
    have key := fun {k : Int} => gk_ok (show 0 < n by omega) i d ib (i := k)
    have inj : ∀ k j : Nat, k < C → j < C → t * (k : Int) % n = t * (j : Int) % n → k = j := fun k j hk hj e => by
      by_cases q : k = j
      · exact q
      · exfalso
        have h1 := (key (k := (k : Int)) (by omega) (by omega)).1.1
        have h2 := (key (k := (k : Int)) (by omega) (by omega)).2.2 (j : Int) (by omega) (by omega) (by omega)
        have : ((j : Int) - k) * t % n = 0 := by
          obtain ⟨p, hp⟩ := mod_dv (t * (k : Int)) n
          obtain ⟨q, hq⟩ := mod_dv (t * (j : Int)) n
          exact mod_is ⟨q - p, by grind⟩ (by omega) (by omega)
        omega
    obtain ⟨Wf, hW⟩ : ∃ Wf : Int → Int, ∀ k : Nat, k < C → Wf (t * (k : Int) % n) = gk C bb a r l k := by
      refine ⟨fun s => gk C bb a r l ((((List.range C).find? fun k : Nat => t * (k : Int) % n == s).getD 0 : Nat) : Int), fun k hk => ?_⟩
      have : (List.range C).find? (fun j : Nat => t * (j : Int) % n == t * (k : Int) % n) = some k := by
        cases h : (List.range C).find? (fun j : Nat => t * (j : Int) % n == t * (k : Int) % n) with
        | none =>
          have := List.find?_eq_none.mp h k (List.mem_range.mpr hk)
          simp at this
        | some j =>
          have h1 := List.find?_some h
          have h2 := List.mem_of_find?_eq_some h
          rw [inj j k (List.mem_range.mp h2) hk (by simpa using h1)]
      dsimp only
      rw [this]
      rfl
    have wm : wideL n (spotsL C t n) = (spotsL C t n).map Wf := by
      rw [hS] at rg ascS memS ⊢
      refine wide_map rg ascS (fun s hs => ?_) (fun s hs => ?_) fun s hs s' hs' ne => ?_
      · obtain ⟨k, hk, rfl⟩ := (memS s).mp hs
        rw [hW k hk]
        exact (key (k := (k : Int)) (by omega) (by omega)).1
      · obtain ⟨k, hk, rfl⟩ := (memS s).mp hs
        rw [hW k hk]
        obtain ⟨j, j0, j1, dv⟩ := (key (k := (k : Int)) (by omega) (by omega)).2.1
        refine (memS _).mpr ⟨j.toNat, by omega, ?_⟩
        rw [Int.toNat_of_nonneg j0]
        have m := mod_b (a := t * j) (n := n) (by omega)
        refine (mod_is ?_ m.1 m.2).symm
        obtain ⟨p, hp⟩ := mod_dv (t * (k : Int)) n
        obtain ⟨q, hq⟩ := mod_dv (t * j) n
        obtain ⟨v, hv⟩ := dv
        exact ⟨v - p + q, by grind⟩
      · obtain ⟨k, hk, rfl⟩ := (memS s).mp hs
        obtain ⟨j, hj, rfl⟩ := (memS s').mp hs'
        rw [hW k hk]
        have h2 := (key (k := (k : Int)) (by omega) (by omega)).2.2 (j : Int) (by omega) (by omega) (fun e => ne (by rw [show j = k by omega]))
        have m := mod_b (a := ((j : Int) - k) * t) (n := n) (by omega)
        have e : (t * (j : Int) % n - t * (k : Int) % n) % n = ((j : Int) - k) * t % n := by
          refine mod_is ?_ m.1 m.2
          obtain ⟨p, hp⟩ := mod_dv (t * (k : Int)) n
          obtain ⟨q, hq⟩ := mod_dv (t * (j : Int)) n
          obtain ⟨v, hv⟩ := mod_dv (((j : Int) - k) * t) n
          exact ⟨p - q + v, by grind⟩
        rw [e]; exact h2
    rw [wm]
    refine gk_rows rfl i ib ?_
    have pm : (spotsL C t n).Perm ((List.range C).map fun k : Nat => t * (k : Int) % n) := (List.perm_ext_iff_of_nodup (asc_nodup ascS) (nodup_map fun i j ij jC e => by
      have := inj i j (by omega) jC e
      omega)).mpr fun x => by
        unfold spotsL
        exact setI_mem _ _
    have pm2 := pm.map Wf
    rw [List.map_map] at pm2
    have ee : (List.range C).map (Wf ∘ fun k : Nat => t * (k : Int) % n) = (List.range C).map fun k : Nat => gk C bb a r l k := List.map_congr_left fun k hk => hW k (List.mem_range.mp hk)
    rw [ee] at pm2
    exact pm2
end W

set_option maxHeartbeats 4000000
namespace W
open PySem PySem.Spec L2 DL
/-! ### the same on a cycle of finer parts -/
theorem count_scale {g : Int} (hg : 0 < g) (x : Int) : ∀ xs : List Int, (xs.map (g * ·)).count (g * x) = xs.count x
  | [] => rfl
  | y :: ys => by
    rw [List.map_cons, List.count_cons, List.count_cons, count_scale hg x ys]
    by_cases e : y = x
    · subst e; simp
    · have : ¬ g * y = g * x := fun h => e (Int.eq_of_mul_eq_mul_left (by omega) h)
      simp [e, this]
theorem asc_scale {g : Int} (hg : 0 < g) {xs : List Int} (h : xs.Pairwise (· < ·)) : (xs.map (g * ·)).Pairwise (· < ·) :=
  List.pairwise_map.mpr (h.imp fun {a b} h => Int.mul_lt_mul_of_pos_left h hg)
theorem setI_scale {g : Int} (hg : 0 < g) (xs : List Int) : setI (xs.map (g * ·)) = (setI xs).map (g * ·) :=
  asc_uniq (setI_asc _) (asc_scale hg (setI_asc _)) fun k => by
    rw [setI_mem, List.mem_map, List.mem_map]
    constructor
    · rintro ⟨x, hx, e⟩; exact ⟨x, (setI_mem x xs).mpr hx, e⟩
    · rintro ⟨x, hx, e⟩; exact ⟨x, (setI_mem x xs).mp hx, e⟩
theorem rowsW_scale {g : Int} (hg : 0 < g) (xs : List Int) : rowsW (xs.map (g * ·)) = (rowsW xs).map fun p => (g * p.1, p.2) := by
  unfold rowsW
  rw [setI_scale hg, List.map_map, List.map_map]
  refine List.map_congr_left fun x _ => ?_
  show (g * x, (((xs.map (g * ·)).count (g * x) : Nat) : Int)) = (g * x, ((xs.count x : Nat) : Int))
  rw [count_scale hg]
theorem dfs_scale (g : Int) : ∀ xs : List Int, dfs (xs.map (g * ·)) = (dfs xs).map (g * ·)
  | [] => rfl
  | [_] => rfl
  | x :: y :: t => by
    have ih := dfs_scale g (y :: t)
    rw [List.map_cons] at ih
    rw [List.map_cons, List.map_cons, dfs, dfs, List.map_cons, ih, Int.mul_sub]
theorem wide_scale (g n : Int) (xs : List Int) : wideL (g * n) (xs.map (g * ·)) = (wideL n xs).map (g * ·) := by
  have h1 : (xs.map (g * ·)).head?.getD 0 = g * (xs.head?.getD 0) := by cases xs <;> simp
  have h2 : (xs.map (g * ·)).getLast?.getD 0 = g * (xs.getLast?.getD 0) := by
    rw [List.getLast?_map]
    cases xs.getLast? <;> simp
  unfold wideL
  rw [h1, h2, dfs_scale, List.map_append, List.map_cons, List.map_nil, Int.mul_sub, Int.mul_add]
theorem spots_scale {g n t T : Int} (hg : 0 < g) (n1 : 1 ≤ n) (hT : n ∣ T - t) (C : Nat) : spotsL C (g * T) (g * n) = (spotsL C t n).map (g * ·) := by
  unfold spotsL
  rw [← setI_scale hg, List.map_map]
  congr 1
  refine List.map_congr_left fun k _ => ?_
  show g * T * (k : Int) % (g * n) = g * (t * (k : Int) % n)
  rw [Int.mul_assoc, Int.mul_emod_mul_of_pos _ _ hg]
  congr 1
  have m := mod_b (a := t * (k : Int)) (n := n) (by omega)
  refine mod_is ?_ m.1 m.2
  obtain ⟨p, hp⟩ := mod_dv (t * (k : Int)) n
  obtain ⟨q, hq⟩ := hT
  exact ⟨q * k + p, by grind⟩
theorem rows_told {C : Nat} {T B : Int} (h1 : 1 ≤ C) (hB : 1 ≤ B) : ∃ g : Int, 0 < g ∧ B = g * (Rat.divInt T B).den ∧ rowsW (wideL B (spotsL C T B)) = (gpL C ((Rat.divInt T B).num % (Rat.divInt T B).den) (Rat.divInt T B).den).map fun p => (g * p.1, p.2) := by
  obtain ⟨q, hq⟩ : ∃ q, Rat.divInt T B = q := ⟨_, rfl⟩
  obtain ⟨g, hT, hBg⟩ : ∃ g : Int, T = q.num * g ∧ B = q.den * g := by
    obtain ⟨m, _, e1, e2⟩ := Rat.divInt_num_den (n := T) (d := B) (n' := q.num) (d' := q.den) (z' := q.den_nz) (c := q.reduced) (by omega) hq
    exact ⟨m, e1, e2⟩
  have n1 : (1 : Int) ≤ q.den := by have := q.den_pos; omega
  have g0 : 0 < g := Int.pos_of_mul_pos_right (a := (q.den : Int)) (by omega) (by omega)
  rw [hq]
  obtain ⟨n, hn⟩ : ∃ n : Int, (q.den : Int) = n := ⟨_, rfl⟩
  have gc := q_gcd q
  rw [hn] at hBg n1 gc ⊢
  have t := mod_b (a := q.num) (n := n) (by omega)
  refine ⟨g, g0, by rw [hBg, Int.mul_comm], ?_⟩
  rw [hBg, hT, Int.mul_comm n, Int.mul_comm q.num, spots_scale g0 n1 (mod_dv q.num n), wide_scale, rowsW_scale g0, rows_gap h1 n1 t.1 t.2 gc]
/-! ### neighbours by their places -/
theorem dfs_rng : ∀ S : List Int, dfs S = (List.range (S.length - 1)).map fun k => S.getD (k + 1) 0 - S.getD k 0
  | [] => rfl
  | [_] => rfl
  | x :: y :: t => by
    rw [dfs, dfs_rng (y :: t), show (x :: y :: t).length - 1 = ((y :: t).length - 1) + 1 by simp, List.range_succ_eq_map, List.map_cons, List.map_map]
    rfl
end W

set_option maxHeartbeats 4000000
namespace W
open PySem PySem.Spec L2 DL
theorem toIs_id (ns : List Int) : toIs (ns.map D.int) = some ns := by simpa using toIs_map (fun x : Int => x) ns
theorem gaprows_ok (c : Cs) {C : Nat} {T B : Int} (h1 : 1 ≤ C) (h2 : C ≤ 40) (hB : 1 ≤ B) (hB2 : B ≤ 60) (hT : -1000 ≤ T ∧ T ≤ 1000) (m : Mu) : F_w_gap_rows c [.int C, .int T, .int B] m = .ok (.lst ((rowsW (wideL B (spotsL C T B))).map fun p => .tup [.int p.1, .int p.2])) m := by
  have hz : sizeLine = 16777216 := rfl
  obtain ⟨S, hS⟩ : ∃ S, spotsL C T B = S := ⟨_, rfl⟩
  have sl : S.length ≤ 40 := by
    rw [← hS]
    have := setI_len ((List.range C).map fun k : Nat => T * (k : Int) % B)
    unfold spotsL
    rw [List.length_map, List.length_range] at this
    omega
  obtain ⟨x, S', hx⟩ : ∃ x S', S = x :: S' := by
    have z0 : (T * ((0 : Nat) : Int) % B) ∈ S := by
      rw [← hS]
      exact (setI_mem _ _).mpr (List.mem_map.mpr ⟨0, List.mem_range.mpr (by omega), rfl⟩)
    cases h : S with
    | nil => rw [h] at z0; simp at z0
    | cons x S' => exact ⟨x, S', rfl⟩
  have sl1 : 1 ≤ S.length := by rw [hx]; simp
  obtain ⟨z, hlast⟩ : ∃ z, S.getLast? = some z := by
    cases h : S.getLast? with
    | none => rw [hx] at h; simp at h
    | some z => exact ⟨z, rfl⟩
  have g0 : gIx (.lst (S.map D.int)) (.int 0) m = .ok (.int x) m := by
    have := gIx_at D.int (xs := S) (k := 0) (x := x) (by rw [hx]; rfl) m
    exact this
  have gl := gIx_last D.int hlast m
  have cm1 : ∀ y3 y5 y6, dCompL (dName 4) dYes (C_w_gap_rows_1 c) [some (.int C), some (.int T), some (.int B), y3, none, y5, y6] (rngD 0 C) m [] = .ok (((List.range C).map fun k : Nat => T * (k : Int) % B).map D.int) m := fun y3 y5 y6 => by
    have e := comp_rng (g := dName 4) (cc := dYes) (b := C_w_gap_rows_1 c) (e := [some (.int C), some (.int T), some (.int B), y3, none, y5, y6]) (m := m) C (fun k : Nat => .int (T * (k : Int) % B)) (fun k hk => ⟨[some (.int C), some (.int T), some (.int B), y3, some (.int k), y5, y6], by simp, by simp, by
      have l := mul_Bi (a := T) (b := (k : Int)) (j := 20) (k := 20) (Bi.lt (by omega) (by omega)) (Bi.lt (by omega) (by omega)) (by decide)
      simp [C_w_gap_rows_1_ap, l, show 0 < B by omega]⟩) (by omega)
    rw [e, List.map_map]
    rfl
  have i1 := toIs_id ((List.range C).map fun k : Nat => T * (k : Int) % B)
  have l1 : ((List.range C).map fun k : Nat => T * (k : Int) % B).length < 64 := by simp; omega
  have eS : setI ((List.range C).map fun k : Nat => T * (k : Int) % B) = S := hS
  obtain ⟨NS, hNS⟩ : ∃ NS, ((List.range C).map fun k : Nat => T * (k : Int) % B) = NS := ⟨_, rfl⟩
  rw [hNS] at i1 l1 eS
  simp only [hNS] at cm1
  have cm2 : ∀ y5 y6, dCompL (dName 4) dYes (C_w_gap_rows_2 c) [some (.int C), some (.int T), some (.int B), some (.lst (S.map D.int)), none, y5, y6] (rngD 0 (S.length - 1)) m [] = .ok ((dfs S).map D.int) m := fun y5 y6 => by
    have e := comp_rng (g := dName 4) (cc := dYes) (b := C_w_gap_rows_2 c) (e := [some (.int C), some (.int T), some (.int B), some (.lst (S.map D.int)), none, y5, y6]) (m := m) (S.length - 1) (fun k : Nat => .int (S.getD (k + 1) 0 - S.getD k 0)) (fun k hk => ⟨[some (.int C), some (.int T), some (.int B), some (.lst (S.map D.int)), some (.int k), y5, y6], by simp, by simp, by
      have a1 := gIx_at D.int (xs := S) (k := k) (x := S.getD k 0) (by rw [List.getD_eq_getElem?_getD, List.getElem?_eq_getElem (by omega)]; rfl) m
      have a2 := gIx_at D.int (xs := S) (k := k + 1) (x := S.getD (k + 1) 0) (by rw [List.getD_eq_getElem?_getD, List.getElem?_eq_getElem (by omega)]; rfl) m
      rw [show (((k + 1 : Nat)) : Int) = (k : Int) + 1 from rfl] at a2
      obtain ⟨SD, hSD⟩ : ∃ L, S.map D.int = L := ⟨_, rfl⟩
      obtain ⟨A1, hA1⟩ : ∃ L, S.getD k 0 = L := ⟨_, rfl⟩
      obtain ⟨A2, hA2⟩ : ∃ L, S.getD (k + 1) 0 = L := ⟨_, rfl⟩
      rw [hSD, hA1] at a1
      rw [hSD, hA2] at a2
      rw [hSD, hA1, hA2]
      simp [C_w_gap_rows_2_ap, a1, a2]⟩) (by omega)
    rw [e, dfs_rng, List.map_map]
    rfl
  have glen : gLen [.lst (S.map D.int)] m = .ok (.int S.length) m := by simp [gLen]
  have wl : (wideL B S).length < 64 := by
    unfold wideL
    rw [List.length_append, dfs_rng]
    simp
    omega
  have wd : (dfs S).map D.int ++ [D.int (x + B - z)] = (wideL B S).map D.int := by
    unfold wideL
    rw [hlast, List.map_append]
    simp [hx]
  have i2 := toIs_id (wideL B S)
  obtain ⟨Wd, hWd⟩ : ∃ L, wideL B S = L := ⟨_, rfl⟩
  rw [hWd] at wl wd i2
  rw [hS, hWd]
  have cm3 : ∀ y3 y4, dCompL (dName 6) dYes (C_w_gap_rows_3 c) [some (.int C), some (.int T), some (.int B), y3, y4, some (.lst (Wd.map D.int)), none] ((setI Wd).map D.int) m [] = .ok ((rowsW Wd).map fun p => .tup [.int p.1, .int p.2]) m := fun y3 y4 => by
    have q := compL_of (g := dName 6) (c := dYes) (b := C_w_gap_rows_3 c) (e := [some (.int C), some (.int T), some (.int B), y3, y4, some (.lst (Wd.map D.int)), none]) (m := m) (F := D.int) (f := fun w => .tup [.int w, .int (Wd.count w : Nat)]) (p := fun _ => true) (setI Wd) [] (fun w _ => ⟨[some (.int C), some (.int T), some (.int B), y3, y4, some (.lst (Wd.map D.int)), some (.int w)], by simp, by simp, fun _ => by
      obtain ⟨WD, hWD⟩ : ∃ L, Wd.map D.int = L := ⟨_, rfl⟩
      rw [hWD] at i2 ⊢
      simp [C_w_gap_rows_3_ap, i2, hz]⟩) (by have := setI_len Wd; simp [hz]; omega)
    rw [filt_true, List.nil_append] at q
    rw [q]
    unfold rowsW
    rw [List.map_map]
    rfl
  have l2 : (setI Wd).length ≤ 64 := by have := setI_len Wd; omega
  obtain ⟨N, hN⟩ : ∃ N : Nat, S.length - 1 = N := ⟨_, rfl⟩
  rw [hN] at cm2
  obtain ⟨LN, hLN⟩ : ∃ k : Int, (S.length : Int) = k := ⟨_, rfl⟩
  rw [hLN] at glen
  obtain ⟨J, hJ⟩ : ∃ k : Int, (C : Int) = k := ⟨_, rfl⟩
  simp only [hJ] at cm1 cm2 cm3 ⊢
  obtain ⟨SD, hSD⟩ : ∃ L, S.map D.int = L := ⟨_, rfl⟩
  rw [hSD] at g0 gl glen
  simp only [hSD] at cm2
  obtain ⟨DD, hDD⟩ : ∃ L, (dfs S).map D.int = L := ⟨_, rfl⟩
  have dl : DD.length ≤ 16777215 := by
    rw [← hDD, List.length_map, dfs_rng, List.length_map, List.length_range]
    omega
  rw [hDD] at wd
  simp only [hDD] at cm2
  obtain ⟨ND, hND⟩ : ∃ L, NS.map D.int = L := ⟨_, rfl⟩
  rw [hND] at i1
  simp only [hND] at cm1
  obtain ⟨WD, hWD⟩ : ∃ L, Wd.map D.int = L := ⟨_, rfl⟩
  rw [hWD] at wd i2
  simp only [hWD] at cm3
  have r1 : rngD 0 J.toNat = rngD 0 C := by rw [show J.toNat = C by omega]
  have r2 : rngD 0 (LN.toNat - 1) = rngD 0 N := by rw [show LN.toNat - 1 = N by omega]
  have b1 : -4611686018427387904 ≤ J := by omega
  have b2 : J < 4611686018427387904 := by omega
  have b3 : -4611686018427387904 ≤ LN - 1 := by omega
  have b4 : LN - 1 < 4611686018427387904 := by omega
  simp [-gIx_lst, F_w_gap_rows, env0, dl, b1, b2, b3, b4, r1, r2, cm1, i1, l1, eS, hSD, -gLen_ap, glen, cm2, g0, gl, wd, i2, wl, cm3, wipeE, hz]
end W

set_option maxHeartbeats 8000000
namespace W
open PySem PySem.Spec L2 DL
def rowT (c : Cs) (n : Int) (p : Int × Int) : D := .tup [rat c (Rat.divInt p.1 n), .int p.2]
def rowF (n : Int) (p : Int × Int) : D := .tup [fr (Rat.divInt p.1 n), .int p.2]
def rowI (p : Int × Int) : D := .tup [.int p.1, .int p.2]
theorem belows_rows (c : Cs) (n : Int) (k : Nat) : ∀ L : List (Int × Int), belows k (L.map (rowT c n)) = true
  | [] => rfl
  | p :: L => by
    rw [List.map_cons]
    show (below k (rowT c n p) && belows k (L.map (rowT c n))) = true
    rw [belows_rows c n k L]
    rfl
theorem gwM_ok (c : Cs) {q : Rat} {C : Int} (zq : Sz 100 q) (hC1 : 1 ≤ C) (hC : C ≤ 1000000000000000000000000000000) {m : Mu} (hm : Cl m) : F_gap_widths c [.int C, rat c q] m = .ok (.loc m.length) (m ++ [.lst ((gpL C (q.num % q.den) q.den).map (rowT c q.den))]) := by
  have t30 : (1000000000000000000000000000000 : Int) < (2 ^ 100 : Nat) := by decide
  have hB : Bd C := ⟨by omega, by omega⟩
  have e1 := gaps_all c zq hC1 hB hm
  have isn : F_is_number c [.int C, .int 1, .int 1000000000000000000000000000000] m = .ok (.bl true) m := by
    simp [F_is_number, F_is_whole, env0, ans_int, ans_bool, tagOf, Ans.get, primNames, hC, show ¬ C < 1 by omega]
  have nr : F_need_ratio c [rat c q] m = .ok .non m := by
    have tg : tagOf m (rat c q) = some (.own c.cRatio) := rfl
    simp [F_need_ratio, F_is_ratio, env0, ans_Ratio__Ratio, tg, Ans.get]
  rw [show (gpL C (q.num % q.den) q.den).map (fun p => D.tup [rat c (Rat.divInt p.1 q.den), .int p.2]) = (gpL C (q.num % q.den) q.den).map (rowT c q.den) from rfl] at e1
  obtain ⟨L, hL⟩ : ∃ L, (gpL C (q.num % q.den) q.den).map (rowT c q.den) = L := ⟨_, rfl⟩
  rw [hL] at e1 ⊢
  obtain ⟨A, hA⟩ : ∃ A, rat c q = A := ⟨_, rfl⟩
  rw [hA] at e1 nr ⊢
  simp [F_gap_widths, env0, isn, nr, e1]
theorem atI_lastF {α : Type} (F : α → D) {xs : List α} {x : α} (h : xs.getLast? = some x) : atI (xs.map F) (-1) = some (F x) := by
  have h0 : xs ≠ [] := fun z => by rw [z] at h; simp at h
  have hl := List.length_pos_iff.mpr h0
  have h1 : xs[xs.length - 1]? = some x := by rw [← List.getLast?_eq_getElem?]; exact h
  obtain ⟨h2, h3⟩ := List.getElem?_eq_some_iff.mp h1
  have q : ixN xs.length (-1) = some (xs.length - 1) := by unfold ixN; simp; omega
  simp [atI, q, h3, h2]
theorem gg_ok (c : Cs) {q : Rat} {C : Int} {p : Int × Int} (zq : Sz 100 q) (hC1 : 1 ≤ C) (hC : C ≤ 1000000000000000000000000000000) (hp : (gpL C (q.num % q.den) q.den).getLast? = some p) {m : Mu} (hm : Cl m) : F_greatest_gap c [.int C, rat c q] m = .ok (rat c (Rat.divInt p.1 q.den)) (m ++ [.lst ((gpL C (q.num % q.den) q.den).map (rowT c q.den))]) := by
  have gw := gwM_ok c zq hC1 hC hm
  have al := atI_lastF (rowT c q.den) hp
  obtain ⟨L, hL⟩ : ∃ L, (gpL C (q.num % q.den) q.den).map (rowT c q.den) = L := ⟨_, rfl⟩
  rw [hL] at gw al ⊢
  obtain ⟨A, hA⟩ : ∃ A, rat c q = A := ⟨_, rfl⟩
  rw [hA] at gw ⊢
  have g : (m ++ [Mo.lst L])[m.length]? = some (.lst L) := by simp
  obtain ⟨M, hM⟩ : ∃ M, m ++ [Mo.lst L] = M := ⟨_, rfl⟩
  obtain ⟨N, hN⟩ : ∃ M, m.length = M := ⟨_, rfl⟩
  obtain ⟨V, hV⟩ : ∃ V, rat c (Rat.divInt p.1 q.den) = V := ⟨_, rfl⟩
  have al : atI L (-1) = some (.tup [V, .int p.2]) := by rw [al, ← hV]; rfl
  rw [hM] at gw g
  rw [hN] at gw g
  rw [hM, hV]
  simp [F_greatest_gap, env0, gw, g, al]
theorem rowF_plain (n : Int) (L : List (Int × Int)) (hl : L.length ≤ sizeLine) : plainD 8 (.lst (L.map (rowF n))) := by
  refine ⟨by simpa using hl, fun d hd => ?_⟩
  obtain ⟨p, _, rfl⟩ := List.mem_map.mp hd
  refine ⟨by simp [show sizeLine = 16777216 from rfl], fun x hx => ?_⟩
  simp only [List.mem_cons, List.not_mem_nil, or_false] at hx
  rcases hx with rfl | rfl
  · exact fr_plain _ 4
  · trivial
theorem cmS_ok (c : Cs) (n : Int) (L : List (Int × Int)) (hl : L.length ≤ 1000) {m : Mu} {k : Nat} (hk : m[k]? = some (.lst (L.map (rowT c n)))) (C0 : DE) (hC0 : C0 = C_law_2 c ∨ C0 = C_law_3 c) (x0 x1 x2 x3 x4 x5 x6 x7 : Option D) : comp1 fF (dTupG 2 (dGcons (dName 8) (dGcons (dName 9) dGnil))) dYes C0 [x0, x1, x2, x3, x4, x5, x6, x7, none, none] (.loc k) m = .ok (.lst (L.map (rowF n))) m := by
  have hz : sizeLine = 16777216 := rfl
  rw [comp1_at hk]
  rw [compG_of (gd := fun m => m[k]? = some (.lst (L.map (rowT c n)))) hk (g := (dTupG 2 (dGcons (dName 8) (dGcons (dName 9) dGnil)))) (c := dYes) (b := C0) (e := [x0, x1, x2, x3, x4, x5, x6, x7, none, none]) (m := m) (F := rowT c n) (f := rowF n) (p := fun _ => true) L [] (fun p _ => ⟨[x0, x1, x2, x3, x4, x5, x6, x7, some (rat c (Rat.divInt p.1 n)), some (.int p.2)], by simp [rowT], by simp, fun _ => by
    have u := parts_ok c (Rat.divInt p.1 n) m
    unfold rowF
    obtain ⟨A, hA⟩ : ∃ A, rat c (Rat.divInt p.1 n) = A := ⟨_, rfl⟩
    obtain ⟨B, hB⟩ : ∃ A, fr (Rat.divInt p.1 n) = A := ⟨_, rfl⟩
    rw [hA, hB] at u
    rw [hA, hB]
    rcases hC0 with rfl | rfl
    · simp [C_law_2_ap, u, hz]
    · simp [C_law_3_ap, u, hz]⟩) (by simp [hz]; omega), filt_true, List.nil_append]
  rfl
theorem cmD_ok (c : Cs) {g n B : Int} (hg : 0 < g) (hn : 1 ≤ n) (hB : B = g * n) (hB2 : B ≤ 1000) (L : List (Int × Int)) (hl : L.length ≤ 1000) (m : Mu) (x0 x1 x2 x3 x5 x6 x7 : Option D) : dCompL (dTupG 2 (dGcons (dName 8) (dGcons (dName 9) dGnil))) dYes (C_law_1 c) [x0, x1, x2, x3, some (.int B), x5, x6, x7, none, none] ((L.map fun p => (g * p.1, p.2)).map rowI) m [] = .ok (L.map (rowF n)) m := by
  have hz : sizeLine = 16777216 := rfl
  have Bp : 0 < B := by rw [hB]; exact Int.mul_pos hg (by omega)
  rw [List.map_map]
  have q := compL_of (g := (dTupG 2 (dGcons (dName 8) (dGcons (dName 9) dGnil)))) (c := dYes) (b := C_law_1 c) (e := [x0, x1, x2, x3, some (.int B), x5, x6, x7, none, none]) (m := m) (F := rowI ∘ fun p => (g * p.1, p.2)) (f := rowF n) (p := fun _ => true) L [] (fun p _ => ⟨[x0, x1, x2, x3, some (.int B), x5, x6, x7, some (.int (g * p.1)), some (.int p.2)], by simp [rowI], by simp, fun _ => by
    have u := fracR c (a := g * p.1) (b := B) (k := 20) (by omega) (Bi.lt (by omega) (by omega)) (by decide) m
    have e : Rat.divInt (g * p.1) B = Rat.divInt p.1 n := by rw [hB]; exact Rat.divInt_mul_left (by omega)
    rw [e] at u
    unfold rowF
    obtain ⟨A, hA⟩ : ∃ A, fr (Rat.divInt p.1 n) = A := ⟨_, rfl⟩
    rw [hA] at u ⊢
    simp [C_law_1_ap, u, hz]⟩) (by simp [hz]; omega)
  rw [filt_true, List.nil_append] at q
  exact q
end W

set_option maxHeartbeats 8000000
namespace W
open PySem PySem.Spec L2 DL
theorem rows3 {C n : Int} {L : List (Int × Int)} (h : RowsOk C n L) : (∃ a, L = [a]) ∨ (∃ a b, L = [a, b]) ∨ ∃ a b d, L = [a, b, d] := by
  have l1 := h.len
  match L, l1 with
  | [a], _ => exact .inl ⟨a, rfl⟩
  | [a, b], _ => exact .inr (.inl ⟨a, b, rfl⟩)
  | [a, b, d], _ => exact .inr (.inr ⟨a, b, d, rfl⟩)
  | _ :: _ :: _ :: _ :: _, l => simp at l
theorem rows_le {C n : Int} {L : List (Int × Int)} (h : RowsOk C n L) : ∀ p ∈ L, p.1 * p.2 ≤ n ∧ p.1 ≤ n ∧ p.2 ≤ n := by
  have ps := h.pos
  have w := h.wid
  have key : ∀ a b : Int, 1 ≤ a → 1 ≤ b → a ≤ a * b ∧ b ≤ a * b := fun a b h1 h2 => by
    have p1 : a * 1 ≤ a * b := Int.mul_le_mul_of_nonneg_left h2 (by omega)
    have p2 : 1 * b ≤ a * b := Int.mul_le_mul_of_nonneg_right h1 (by omega)
    omega
  rcases rows3 h with ⟨⟨a1, a2⟩, rfl⟩ | ⟨⟨a1, a2⟩, ⟨b1, b2⟩, rfl⟩ | ⟨⟨a1, a2⟩, ⟨b1, b2⟩, ⟨d1, d2⟩, rfl⟩
  · simp at ps w ⊢
    have := key a1 a2 ps.1 ps.2
    omega
  · simp at ps w ⊢
    have := key a1 a2 ps.1.1 ps.1.2
    have := key b1 b2 ps.2.1 ps.2.2
    omega
  · simp at ps w ⊢
    have := key a1 a2 ps.1.1 ps.1.2
    have := key b1 b2 ps.2.1.1 ps.2.1.2
    have := key d1 d2 ps.2.2.1 ps.2.2.2
    omega
def Inv52 (e : En) : Prop := ∃ x0 x2 x3 x4 x5 x6 x7 x8 x9, e = [x0, some (.loc 0), x2, x3, x4, x5, x6, x7, x8, x9]
theorem body_ok (c : Cs) (d : D) (e : En) (m : Mu) (he : Inv52 e ∧ BagOk m ∧ Cl m) : ∃ e1 e2 m2, dName 2 d e = some e1 ∧ B_law_1 c e1 m = .nx e2 m2 ∧ Inv52 e2 ∧ BagOk m2 ∧ Cl m2 := by
  have hz : sizeLine = 16777216 := rfl
  obtain ⟨⟨x0, x2, x3, x4, x5, x6, x7, x8, x9, rfl⟩, hb, hc0⟩ := he
  obtain ⟨u, m1, e1, u0, u1, g1⟩ := take_ok c hb (n := 40) (by decide) (by decide)
  have b1 := g1.bag hb
  obtain ⟨v, m2, e2, v0, v1, g2⟩ := take_ok c b1 (n := 60) (by decide) (by decide)
  have b2 := g2.bag b1
  obtain ⟨B, hB⟩ : ∃ N : Int, 1 + v = N := ⟨_, rfl⟩
  obtain ⟨w, m3, e3, w0, w1, g3⟩ := take_ok c b2 (n := 4 * B + 1) (by omega) (by omega)
  have b3 := g3.bag b2
  have c3 := g3.cl (g2.cl (g1.cl hc0))
  obtain ⟨T, hT⟩ : ∃ N : Int, w - 2 * B = N := ⟨_, rfl⟩
  obtain ⟨C, hC⟩ : ∃ N : Int, 1 + u = N := ⟨_, rfl⟩
  obtain ⟨CN, hCN⟩ : ∃ k : Nat, (k : Int) = C := ⟨C.toNat, by omega⟩
  have gr := gaprows_ok c (C := CN) (T := T) (B := B) (by omega) (by omega) (by omega) (by omega) (by omega) m3
  obtain ⟨g, g0, hBg, rows⟩ := rows_told (C := CN) (T := T) (B := B) (by omega) (by omega)
  rw [rows] at gr
  rw [show ∀ L : List (Int × Int), L.map (fun p => D.tup [.int p.1, .int p.2]) = L.map rowI from fun _ => rfl] at gr
  have rq := rmk c (a := T) (b := B) (k := 20) (by omega) (Bi.lt (by omega) (by omega)) (by decide) c3
  have zq : Sz 100 (Rat.divInt T B) := (Sz.di (k := 20) (Bi.lt (by omega) (by omega)) (Bi.lt (by omega) (by omega)) (by omega)).mono (by decide)
  obtain ⟨q, hq⟩ : ∃ q, Rat.divInt T B = q := ⟨_, rfl⟩
  rw [hq] at rq zq gr hBg
  have gw := gwM_ok c zq (C := C) (by omega) (by omega) c3
  obtain ⟨n, hn⟩ : ∃ n : Int, (q.den : Int) = n := ⟨_, rfl⟩
  have n1 : 1 ≤ n := by have := q.den_pos; omega
  have tb := mod_b (a := q.num) (n := n) (by omega)
  have gc := q_gcd q
  rw [hn] at gc
  obtain ⟨ok, _, _⟩ := gpL_ok (C := C) (by omega) n1 tb.1 tb.2 gc
  have l13 := ok.len
  rw [hCN] at gr
  rw [hn] at gr hBg
  obtain ⟨p, hp⟩ : ∃ p, (gpL C (q.num % n) n).getLast? = some p := by
    cases h : (gpL C (q.num % n) n).getLast? with
    | none => rw [List.getLast?_eq_none_iff] at h; rw [h] at l13; simp at l13
    | some p => exact ⟨p, rfl⟩
  have pm := List.mem_of_getLast? hp
  have pp := ok.pos p pm
  have pl := rows_le ok p pm
  have gp1 : 1 * 1 ≤ g * p.1 := Int.mul_le_mul (by omega) pp.1 (by omega) (by omega)
  have gpn : g * p.1 ≤ g * n := Int.mul_le_mul_of_nonneg_left pl.2.1 (by omega)
  have l1000 : (gpL C (q.num % n) n).length ≤ 1000 := by omega
  have cl4 : Cl (m3 ++ [Mo.lst []]) := c3.snoc rfl
  have b4 : BagOk (m3 ++ [Mo.lst []]) := (Grew.one cl4).bag b3
  have gg := gg_ok c zq (C := C) (by omega) (by omega) (by rw [hn]; exact hp) cl4
  have rq5 := rmk c (a := T) (b := B) (k := 20) (by omega) (Bi.lt (by omega) (by omega)) (by decide) cl4
  rw [hq] at rq5
  rw [hn] at gg gw
  have gl : ∀ mm : Mu, gIx (.lst (((gpL C (q.num % n) n).map fun p => (g * p.1, p.2)).map rowI)) (.int (-1)) mm = .ok (.tup [.int (g * p.1), .int p.2]) mm := by
    intro mm
    rw [List.map_map]
    exact gIx_last _ hp _
  obtain ⟨L, hL⟩ : ∃ L, gpL C (q.num % n) n = L := ⟨_, rfl⟩
  rw [hL] at gr gw gg l1000
  simp only [hL] at gl
  have cl5 : Cl (m3 ++ [Mo.lst []] ++ [Mo.lst (L.map (rowT c n))]) := cl4.snoc (belows_rows c n _ L)
  have b5 := (Grew.one cl5).bag b4
  have is := is_ok c (k := 20) (a := g * p.1) (b := B) (Bi.lt (by omega) (by omega)) (Bi.lt (by omega) (by omega)) (by omega) (m3 ++ [Mo.lst []] ++ [Mo.lst (L.map (rowT c n))]) (by decide)
  rw [show Rat.divInt (g * p.1) B = Rat.divInt p.1 n from by rw [hBg]; exact Rat.divInt_mul_left (by omega)] at is
  have g4 : (m3 ++ [Mo.lst (L.map (rowT c n))])[m3.length]? = some (.lst (L.map (rowT c n))) := by simp
  have kS := cmS_ok c n L l1000 g4 (C_law_2 c) (.inl rfl)
  have kD := cmD_ok c g0 n1 hBg (by omega) L l1000 (m3 ++ [Mo.lst (L.map (rowT c n))])
  have lk := like_refl c (m3 ++ [Mo.lst (L.map (rowT c n))]) 8 _ (rowF_plain n L (by rw [hz]; omega))
  have st : (m3 ++ [Mo.lst (L.map (rowT c n))]).set m3.length (Mo.lst []) = m3 ++ [Mo.lst []] := by simp
  have tg : tagOf (m3 ++ [Mo.lst (L.map (rowT c n))]) (.loc m3.length) = some (.prim "list") := by simp [tagOf, g4]
  suffices h : ∃ e2, B_law_1 c [x0, some (.loc 0), some d, x3, x4, x5, x6, x7, x8, x9] m = .nx e2 (m3 ++ [Mo.lst []] ++ [Mo.lst (L.map (rowT c n))]) ∧ Inv52 e2 by
    obtain ⟨e2, h1, h2⟩ := h
    exact ⟨_, e2, _, by simp, h1, h2, b5, cl5⟩
  have pk : ∀ a b : D, DL.pick [0, 1] [a, b] = some [a, b] := fun _ _ => rfl
  have pk' : ∀ a b : D, DL.pick [1, 0] [a, b] = some [b, a] := fun _ _ => rfl
  have mB : mulOk 4 B = true := mul_Bi (a := 4) (b := B) (j := 20) (k := 20) (Bi.lt (by omega) (by omega)) (Bi.lt (by omega) (by omega)) (by decide)
  have mB2 : mulOk 2 B = true := mul_Bi (a := 2) (b := B) (j := 20) (k := 20) (Bi.lt (by omega) (by omega)) (Bi.lt (by omega) (by omega)) (by decide)
  obtain ⟨DU, hDU⟩ : ∃ L', (L.map fun p => (g * p.1, p.2)).map rowI = L' := ⟨_, rfl⟩
  obtain ⟨FL, hFL⟩ : ∃ L', L.map (rowF n) = L' := ⟨_, rfl⟩
  obtain ⟨RT, hRT⟩ : ∃ L', L.map (rowT c n) = L' := ⟨_, rfl⟩
  obtain ⟨Q, hQ⟩ : ∃ L', rat c q = L' := ⟨_, rfl⟩
  obtain ⟨V, hV⟩ : ∃ L', rat c (Rat.divInt p.1 n) = L' := ⟨_, rfl⟩
  obtain ⟨X, hX⟩ : ∃ X, g * p.1 = X := ⟨_, rfl⟩
  obtain ⟨k2, hk2⟩ : ∃ X, p.2 = X := ⟨_, rfl⟩
  rw [hDU] at gr
  simp only [hDU] at gl
  simp only [hDU] at kD
  simp only [hFL] at kS kD lk
  simp only [hRT] at gw gg is kS kD lk st g4 tg ⊢
  simp only [hQ] at rq rq5 gw gg
  simp only [hV] at gg is
  simp only [hX] at gl is
  simp only [hk2] at gl
  obtain ⟨M3, hM3⟩ : ∃ M, m3.length = M := ⟨_, rfl⟩
  obtain ⟨M4, hM4⟩ : ∃ M, m3 ++ [Mo.lst RT] = M := ⟨_, rfl⟩
  obtain ⟨M5, hM5⟩ : ∃ M, m3 ++ [Mo.lst []] = M := ⟨_, rfl⟩
  obtain ⟨M6, hM6⟩ : ∃ M, M5 ++ [Mo.lst RT] = M := ⟨_, rfl⟩
  simp only [hM5] at rq5 gg is st ⊢
  simp only [hM6] at gg is ⊢
  simp only [hM4] at gw kS kD lk st g4 tg
  simp only [hM3] at gw kS st g4 tg
  rw [B_law_1_ap]
  refine NXe (by (conv => lhs; simp [e1, e2, hB, hC, hz]) <;> rfl) ?_
  refine NXe (by (conv => lhs; simp [e3, mB, mB2, hT]) <;> rfl) ?_
  refine NXe (by (conv => lhs; simp [gr]) <;> rfl) ?_
  refine NXe (by (conv => lhs; simp [GK_gap_widths_1_step, pk, rq, gw]) <;> rfl) ?_
  refine NXe (by (conv => lhs; simp [ans_list, Ans.get, tg, primNames, kS, kD, lk, wipeE]) <;> rfl) ?_
  refine NXe (by (conv => lhs; simp [g4, st]) <;> rfl) ?_
  refine ⟨_, by (conv => lhs; simp [-gIx_lst, GK_greatest_gap_0_step_count, pk', rq5, gg, gl, is]) <;> rfl, _, _, _, _, _, _, _, _, _, rfl⟩
theorem law_true (c : Cs) (hc : c.Ok) (ns : List Int) (hl : ns.length ≤ 63) : ∃ m, F_law c [.lst (ns.map .int)] [] = .ok (.bl true) m := by
  have hz : sizeLine = 16777216 := rfl
  obtain ⟨m0, e0, b0, c0⟩ := begin_ok c ns hl
  obtain ⟨e1, m1, h1, ⟨x0, x2, x3, x4, x5, x6, x7, x8, x9, rfl⟩, b1, c1⟩ := dLoop_inv (g := dName 2) (b := B_law_1 c) (fun e m => Inv52 e ∧ BagOk m ∧ Cl m) (rngD 0 8) [some (.lst (ns.map .int)), some (.loc 0), none, none, none, none, none, none, none, none] m0 (fun d _ e m h => body_ok c d e m h) ⟨⟨_, _, _, _, _, _, _, _, _, rfl⟩, b0, c0⟩
  have rq := rmk c (a := 2) (b := 5) (k := 20) (by decide) (by unfold Bi; decide) (by decide) c1
  have n5 : (Rat.divInt 2 5).num = 2 := by decide +kernel
  have d5 : ((Rat.divInt 2 5).den : Int) = 5 := by decide +kernel
  have zq : Sz 100 (Rat.divInt 2 5) := Sz.di (by unfold Bi; decide) (by unfold Bi; decide) (by decide)
  have gw := gwM_ok c zq (C := 4) (by decide) (by decide) c1
  rw [n5, d5, show gpL 4 (2 % 5) 5 = [(1, 3), (2, 1)] from by decide +kernel] at gw
  obtain ⟨L, hL⟩ : ∃ L : List (Int × Int), [(1, 3), (2, 1)] = L := ⟨_, rfl⟩
  have ll : L.length ≤ 1000 := by rw [← hL]; decide
  have fl : L.map (rowF 5) = [.tup [.tup [.int 1, .int 5], .int 3], .tup [.tup [.int 2, .int 5], .int 1]] := by
    rw [← hL]
    have a1 : (Rat.divInt 1 5).num = 1 := by decide +kernel
    have a2 : ((Rat.divInt 1 5).den : Int) = 5 := by decide +kernel
    show [D.tup [fr (Rat.divInt 1 5), .int 3], .tup [fr (Rat.divInt 2 5), .int 1]] = _
    unfold fr
    rw [a1, a2, n5, d5]
  rw [hL] at gw
  have g4 : (m1 ++ [Mo.lst (L.map (rowT c 5))])[m1.length]? = some (.lst (L.map (rowT c 5))) := by simp
  have kS := cmS_ok c 5 L ll g4 (C_law_3 c) (.inr rfl)
  have lk := like_refl c (m1 ++ [Mo.lst (L.map (rowT c 5))]) 8 _ (rowF_plain 5 L (by rw [hz]; omega))
  rw [fl] at lk
  simp only [fl] at kS
  refine ⟨m1 ++ [Mo.lst (L.map (rowT c 5))], ?_⟩
  obtain ⟨RT, hRT⟩ : ∃ L', L.map (rowT c 5) = L' := ⟨_, rfl⟩
  obtain ⟨Q, hQ⟩ : ∃ L', rat c (Rat.divInt 2 5) = L' := ⟨_, rfl⟩
  simp only [hRT] at gw kS lk ⊢
  simp only [hQ] at rq gw
  obtain ⟨M3, hM3⟩ : ∃ M, m1.length = M := ⟨_, rfl⟩
  obtain ⟨M4, hM4⟩ : ∃ M, m1 ++ [Mo.lst RT] = M := ⟨_, rfl⟩
  simp only [hM4] at gw kS lk ⊢
  simp only [hM3] at gw kS
  simp [F_law, env0, e0, h1, rq, gw, kS, lk, wipeE, hz]
end W

set_option maxHeartbeats 0
namespace W
open PySem PySem.Spec L2 DL
theorem facts {P : Program} {w : World} {K : PySem.W.Frag} {h : Heap} {mg : Str → Option Value} {fa : Addr} (X : K.In h) (G : h.Ns mainGlobals mg) (hfa : mg ("law" : Str) = some (.ref fa)) (c : SaysK fs ds K) :
    ∃ (fd : FuncData) (cc : Cs), cc.Ok ∧ (∀ (s : Shared) (v : Value), BindsTo s fd ⟨[v], []⟩ [("_law_script", v)]) ∧ ∀ base : Heap, K.In base → base.Ns mainGlobals mg → FnD P w K mg base 12 fa fd ["_law_script"] (F_law cc) := by
  obtain ⟨fd0, F0⟩ := c.df 0 (d := dk0) rfl
  obtain ⟨fd1, F1⟩ := c.df 1 (d := dk1) rfl
  obtain ⟨fd2, F2⟩ := c.df 2 (d := dk2) rfl
  obtain ⟨fd3, F3⟩ := c.df 3 (d := dk3) rfl
  obtain ⟨fd4, F4⟩ := c.df 4 (d := dk4) rfl
  obtain ⟨fd5, F5⟩ := c.df 5 (d := dk5) rfl
  obtain ⟨fd6, F6⟩ := c.df 6 (d := dk6) rfl
  obtain ⟨fd7, F7⟩ := c.df 7 (d := dk7) rfl
  obtain ⟨fd8, F8⟩ := c.df 8 (d := dk8) rfl
  obtain ⟨fd9, F9⟩ := c.df 9 (d := dk9) rfl
  obtain ⟨fd10, F10⟩ := c.df 10 (d := dk10) rfl
  obtain ⟨fd11, F11⟩ := c.df 11 (d := dk11) rfl
  obtain ⟨fd12, F12⟩ := c.df 12 (d := dk12) rfl
  obtain ⟨fd13, F13⟩ := c.df 13 (d := dk13) rfl
  obtain ⟨fd14, F14⟩ := c.df 14 (d := dk14) rfl
  obtain ⟨fd15, F15⟩ := c.df 15 (d := dk15) rfl
  obtain ⟨fd16, F16⟩ := c.df 16 (d := dk16) rfl
  obtain ⟨fd17, F17⟩ := c.df 17 (d := dk17) rfl
  obtain ⟨fd18, F18⟩ := c.df 18 (d := dk18) rfl
  obtain ⟨fd19, F19⟩ := c.df 19 (d := dk19) rfl
  obtain ⟨fd20, F20⟩ := c.df 20 (d := dk20) rfl
  obtain ⟨fd21, F21⟩ := c.df 21 (d := dk21) rfl
  have T : Txt K mg ⟨(He.ga K "Ratio")⟩ := {
    fn_w_begin := ⟨_, _, He.glo_ok X G (c.fact 0 (f := q0) rfl), F0⟩
    fn_w_take := ⟨_, _, He.glo_ok X G (c.fact 1 (f := q1) rfl), F1⟩
    fn_w_gap_rows := ⟨_, _, He.glo_ok X G (c.fact 2 (f := q2) rfl), F2⟩
    fn_is_whole := ⟨_, _, He.glo_ok X G (c.fact 3 (f := q3) rfl), F3⟩
    fn_is_number := ⟨_, _, He.glo_ok X G (c.fact 4 (f := q4) rfl), F4⟩
    fn_is_ratio := ⟨_, _, He.glo_ok X G (c.fact 5 (f := q5) rfl), F5⟩
    fn_need_ratio := ⟨_, _, He.glo_ok X G (c.fact 6 (f := q6) rfl), F6⟩
    pr_Ratio_bottom := ⟨_, _, _, ⟨(show PySem.W.findIn K (.ref (He.ga K "Ratio")) "bottom" = some (some (.ref (He.ma K (He.ga K "Ratio") "bottom"))) from He.eqO_ok (c.fact 10 (f := q10) rfl)), (show PySem.W.specialIn K (.ref (He.ma K (He.ga K "Ratio") "bottom")) "__get__" = some (some (.builtin "property.__get__")) from He.eqO_ok (c.fact 7 (f := q7) rfl)), (of_decide_eq_true (show decide (PySem.W.takesIn K (.ref (He.ma K (He.ga K "Ratio") "bottom")) = some true) = true from (c.fact 8 (f := q8) rfl))), (recB_ok (c.fact 9 (f := q9) rfl))⟩, F7⟩
    fn_common_divisor := ⟨_, _, He.glo_ok X G (c.fact 11 (f := q11) rfl), F8⟩
    me_RatioD_initD := ⟨_, _, (show PySem.W.findIn K (.ref (He.ga K "Ratio")) "__init__" = some (some (.ref (He.ma K (He.ga K "Ratio") "__init__"))) from He.eqO_ok (c.fact 12 (f := q12) rfl)), (show PySem.W.isFn K (.ref (He.ma K (He.ga K "Ratio") "__init__")) = true from (c.fact 13 (f := q13) rfl)), F9⟩
    me_Ratio_moment := ⟨_, _, (show PySem.W.findIn K (.ref (He.ga K "Ratio")) "moment" = some (some (.ref (He.ma K (He.ga K "Ratio") "moment"))) from He.eqO_ok (c.fact 14 (f := q14) rfl)), (show PySem.W.isFn K (.ref (He.ma K (He.ga K "Ratio") "moment")) = true from (c.fact 15 (f := q15) rfl)), F10⟩
    pr_Ratio_top := ⟨_, _, _, ⟨(show PySem.W.findIn K (.ref (He.ga K "Ratio")) "top" = some (some (.ref (He.ma K (He.ga K "Ratio") "top"))) from He.eqO_ok (c.fact 19 (f := q19) rfl)), (show PySem.W.specialIn K (.ref (He.ma K (He.ga K "Ratio") "top")) "__get__" = some (some (.builtin "property.__get__")) from He.eqO_ok (c.fact 16 (f := q16) rfl)), (of_decide_eq_true (show decide (PySem.W.takesIn K (.ref (He.ma K (He.ga K "Ratio") "top")) = some true) = true from (c.fact 17 (f := q17) rfl))), (recB_ok (c.fact 18 (f := q18) rfl))⟩, F11⟩
    fn_nearest_steps := ⟨_, _, He.glo_ok X G (c.fact 20 (f := q20) rfl), F12⟩
    fn_gaps_between := ⟨_, _, He.glo_ok X G (c.fact 21 (f := q21) rfl), F13⟩
    fn_gap_widths := ⟨_, _, He.glo_ok X G (c.fact 22 (f := q22) rfl), F14⟩
    fn_w_divisor := ⟨_, _, He.glo_ok X G (c.fact 23 (f := q23) rfl), F15⟩
    fn_w_frac := ⟨_, _, He.glo_ok X G (c.fact 24 (f := q24) rfl), F16⟩
    fn_w_parts := ⟨_, _, He.glo_ok X G (c.fact 25 (f := q25) rfl), F17⟩
    fn_w_like := ⟨_, _, He.glo_ok X G (c.fact 26 (f := q26) rfl), F18⟩
    fn_greatest_gap := ⟨_, _, He.glo_ok X G (c.fact 27 (f := q27) rfl), F19⟩
    fn_w_is := ⟨_, _, He.glo_ok X G (c.fact 28 (f := q28) rfl), F20⟩
    fn_law := ⟨_, _, He.glo_ok X G (c.fact 29 (f := q29) rfl), F21⟩
    b_abs := He.free_ok X G (c.fact 30 (f := q30) rfl)
    b_all := He.free_ok X G (c.fact 31 (f := q31) rfl)
    b_bool := He.free_ok X G (c.fact 32 (f := q32) rfl)
    b_int := He.free_ok X G (c.fact 33 (f := q33) rfl)
    b_isinstance := He.free_ok X G (c.fact 34 (f := q34) rfl)
    b_len := He.free_ok X G (c.fact 35 (f := q35) rfl)
    b_list := He.free_ok X G (c.fact 36 (f := q36) rfl)
    b_min := He.free_ok X G (c.fact 37 (f := q37) rfl)
    b_range := He.free_ok X G (c.fact 38 (f := q38) rfl)
    b_set := He.free_ok X G (c.fact 39 (f := q39) rfl)
    b_sorted := He.free_ok X G (c.fact 40 (f := q40) rfl)
    b_str := He.free_ok X G (c.fact 41 (f := q41) rfl)
    b_tuple := He.free_ok X G (c.fact 42 (f := q42) rfl)
    b_zip := He.free_ok X G (c.fact 43 (f := q43) rfl)
    g_MOST_COUNT := He.int_ok X G (c.fact 44 (f := q44) rfl)
    cl_Ratio := (He.cls_ok (c.fact 45 (f := q45) rfl))
    gc_Ratio := He.glo_ok X G (c.fact 46 (f := q46) rfl)
    mk_Ratio := ⟨(show PySem.W.makesIn K (He.ga K "Ratio") = true from (c.fact 47 (f := q47) rfl)), (show PySem.W.keepIn K (.ref (He.ga K "Ratio")) = true from (c.fact 48 (f := q48) rfl))⟩
    fl_Ratio_own_bottom := ⟨(He.cls_ok (c.fact 45 (f := q45) rfl)), He.noat_ok (c.fact 49 (f := q49) rfl), (show nsRatio[1]? = some ("own_bottom" : Str) from by decide +kernel), (show ("own_bottom" : Str) ∉ nsRatio.take 1 from by decide +kernel)⟩
    fl_Ratio_own_top := ⟨(He.cls_ok (c.fact 45 (f := q45) rfl)), He.noat_ok (c.fact 50 (f := q50) rfl), (show nsRatio[0]? = some ("own_top" : Str) from by decide +kernel), (show ("own_top" : Str) ∉ nsRatio.take 0 from by decide +kernel)⟩
    in_Ratio := ⟨(He.cls_ok (c.fact 45 (f := q45) rfl)), (show PySem.W.findIn K (.ref (He.ga K "Ratio")) "__class__" = some (some (.builtin "object.__class__")) from He.eqO_ok (c.fact 53 (f := q53) rfl)), (show PySem.W.specialIn K (.builtin "object.__class__") "__get__" = some (some (.builtin "getset_descriptor.__get__")) from He.eqO_ok (c.fact 51 (f := q51) rfl)), (of_decide_eq_true (show decide (PySem.W.takesIn K (.builtin "object.__class__") = some true) = true from (c.fact 52 (f := q52) rfl))), (of_decide_eq_true (show decide (PySem.W.mroIn K (He.ga K "Ratio") (.type "object") = some true) = true from (c.fact 54 (f := q54) rfl)))⟩
    ans_Ratio__Ratio := by
      refine ⟨fun n hn => ?_, fun p hp => ?_⟩
      · simp only [primNames, List.mem_cons, List.not_mem_nil, or_false] at hn
        rcases hn with rfl | rfl | rfl | rfl | rfl | rfl
        · exact (of_decide_eq_true (show decide (PySem.W.kitAny K (.type "NoneType") [.ref (He.ga K "Ratio")] = some false) = true from (c.fact 55 (f := q55) rfl)))
        · exact (of_decide_eq_true (show decide (PySem.W.kitAny K (.type "bool") [.ref (He.ga K "Ratio")] = some false) = true from (c.fact 56 (f := q56) rfl)))
        · exact (of_decide_eq_true (show decide (PySem.W.kitAny K (.type "int") [.ref (He.ga K "Ratio")] = some false) = true from (c.fact 57 (f := q57) rfl)))
        · exact (of_decide_eq_true (show decide (PySem.W.kitAny K (.type "str") [.ref (He.ga K "Ratio")] = some false) = true from (c.fact 58 (f := q58) rfl)))
        · exact (of_decide_eq_true (show decide (PySem.W.kitAny K (.type "tuple") [.ref (He.ga K "Ratio")] = some false) = true from (c.fact 59 (f := q59) rfl)))
        · exact (of_decide_eq_true (show decide (PySem.W.kitAny K (.type "list") [.ref (He.ga K "Ratio")] = some false) = true from (c.fact 60 (f := q60) rfl)))
      · simp only [ans_Ratio__Ratio, List.mem_cons, List.not_mem_nil, or_false] at hp
        subst hp
        · exact ⟨(of_decide_eq_true (show decide (PySem.W.kitAny K (.ref (He.ga K "Ratio")) [.ref (He.ga K "Ratio")] = some true) = true from (c.fact 61 (f := q61) rfl))), ⟨(He.cls_ok (c.fact 45 (f := q45) rfl)), (show PySem.W.findIn K (.ref (He.ga K "Ratio")) "__class__" = some (some (.builtin "object.__class__")) from He.eqO_ok (c.fact 53 (f := q53) rfl)), (show PySem.W.specialIn K (.builtin "object.__class__") "__get__" = some (some (.builtin "getset_descriptor.__get__")) from He.eqO_ok (c.fact 51 (f := q51) rfl)), (of_decide_eq_true (show decide (PySem.W.takesIn K (.builtin "object.__class__") = some true) = true from (c.fact 52 (f := q52) rfl))), (of_decide_eq_true (show decide (PySem.W.mroIn K (He.ga K "Ratio") (.type "object") = some true) = true from (c.fact 54 (f := q54) rfl)))⟩⟩

    ans_bool := by
      refine ⟨fun n hn => ?_, fun p hp => ?_⟩
      · simp only [primNames, List.mem_cons, List.not_mem_nil, or_false] at hn
        rcases hn with rfl | rfl | rfl | rfl | rfl | rfl
        · exact (of_decide_eq_true (show decide (PySem.W.kitAny K (.type "NoneType") [.type "bool"] = some false) = true from (c.fact 62 (f := q62) rfl)))
        · exact (of_decide_eq_true (show decide (PySem.W.kitAny K (.type "bool") [.type "bool"] = some true) = true from (c.fact 63 (f := q63) rfl)))
        · exact (of_decide_eq_true (show decide (PySem.W.kitAny K (.type "int") [.type "bool"] = some false) = true from (c.fact 64 (f := q64) rfl)))
        · exact (of_decide_eq_true (show decide (PySem.W.kitAny K (.type "str") [.type "bool"] = some false) = true from (c.fact 65 (f := q65) rfl)))
        · exact (of_decide_eq_true (show decide (PySem.W.kitAny K (.type "tuple") [.type "bool"] = some false) = true from (c.fact 66 (f := q66) rfl)))
        · exact (of_decide_eq_true (show decide (PySem.W.kitAny K (.type "list") [.type "bool"] = some false) = true from (c.fact 67 (f := q67) rfl)))
      · simp only [ans_bool, List.mem_cons, List.not_mem_nil, or_false] at hp

    ans_int := by
      refine ⟨fun n hn => ?_, fun p hp => ?_⟩
      · simp only [primNames, List.mem_cons, List.not_mem_nil, or_false] at hn
        rcases hn with rfl | rfl | rfl | rfl | rfl | rfl
        · exact (of_decide_eq_true (show decide (PySem.W.kitAny K (.type "NoneType") [.type "int"] = some false) = true from (c.fact 68 (f := q68) rfl)))
        · exact (of_decide_eq_true (show decide (PySem.W.kitAny K (.type "bool") [.type "int"] = some true) = true from (c.fact 69 (f := q69) rfl)))
        · exact (of_decide_eq_true (show decide (PySem.W.kitAny K (.type "int") [.type "int"] = some true) = true from (c.fact 70 (f := q70) rfl)))
        · exact (of_decide_eq_true (show decide (PySem.W.kitAny K (.type "str") [.type "int"] = some false) = true from (c.fact 71 (f := q71) rfl)))
        · exact (of_decide_eq_true (show decide (PySem.W.kitAny K (.type "tuple") [.type "int"] = some false) = true from (c.fact 72 (f := q72) rfl)))
        · exact (of_decide_eq_true (show decide (PySem.W.kitAny K (.type "list") [.type "int"] = some false) = true from (c.fact 73 (f := q73) rfl)))
      · simp only [ans_int, List.mem_cons, List.not_mem_nil, or_false] at hp

    ans_list := by
      refine ⟨fun n hn => ?_, fun p hp => ?_⟩
      · simp only [primNames, List.mem_cons, List.not_mem_nil, or_false] at hn
        rcases hn with rfl | rfl | rfl | rfl | rfl | rfl
        · exact (of_decide_eq_true (show decide (PySem.W.kitAny K (.type "NoneType") [.type "list"] = some false) = true from (c.fact 74 (f := q74) rfl)))
        · exact (of_decide_eq_true (show decide (PySem.W.kitAny K (.type "bool") [.type "list"] = some false) = true from (c.fact 75 (f := q75) rfl)))
        · exact (of_decide_eq_true (show decide (PySem.W.kitAny K (.type "int") [.type "list"] = some false) = true from (c.fact 76 (f := q76) rfl)))
        · exact (of_decide_eq_true (show decide (PySem.W.kitAny K (.type "str") [.type "list"] = some false) = true from (c.fact 77 (f := q77) rfl)))
        · exact (of_decide_eq_true (show decide (PySem.W.kitAny K (.type "tuple") [.type "list"] = some false) = true from (c.fact 78 (f := q78) rfl)))
        · exact (of_decide_eq_true (show decide (PySem.W.kitAny K (.type "list") [.type "list"] = some true) = true from (c.fact 79 (f := q79) rfl)))
      · simp only [ans_list, List.mem_cons, List.not_mem_nil, or_false] at hp

    ans_list_tuple := by
      refine ⟨fun n hn => ?_, fun p hp => ?_⟩
      · simp only [primNames, List.mem_cons, List.not_mem_nil, or_false] at hn
        rcases hn with rfl | rfl | rfl | rfl | rfl | rfl
        · exact (of_decide_eq_true (show decide (PySem.W.kitAny K (.type "NoneType") [.type "list", .type "tuple"] = some false) = true from (c.fact 80 (f := q80) rfl)))
        · exact (of_decide_eq_true (show decide (PySem.W.kitAny K (.type "bool") [.type "list", .type "tuple"] = some false) = true from (c.fact 81 (f := q81) rfl)))
        · exact (of_decide_eq_true (show decide (PySem.W.kitAny K (.type "int") [.type "list", .type "tuple"] = some false) = true from (c.fact 82 (f := q82) rfl)))
        · exact (of_decide_eq_true (show decide (PySem.W.kitAny K (.type "str") [.type "list", .type "tuple"] = some false) = true from (c.fact 83 (f := q83) rfl)))
        · exact (of_decide_eq_true (show decide (PySem.W.kitAny K (.type "tuple") [.type "list", .type "tuple"] = some true) = true from (c.fact 84 (f := q84) rfl)))
        · exact (of_decide_eq_true (show decide (PySem.W.kitAny K (.type "list") [.type "list", .type "tuple"] = some true) = true from (c.fact 85 (f := q85) rfl)))
      · simp only [ans_list_tuple, List.mem_cons, List.not_mem_nil, or_false] at hp

    ans_str := by
      refine ⟨fun n hn => ?_, fun p hp => ?_⟩
      · simp only [primNames, List.mem_cons, List.not_mem_nil, or_false] at hn
        rcases hn with rfl | rfl | rfl | rfl | rfl | rfl
        · exact (of_decide_eq_true (show decide (PySem.W.kitAny K (.type "NoneType") [.type "str"] = some false) = true from (c.fact 86 (f := q86) rfl)))
        · exact (of_decide_eq_true (show decide (PySem.W.kitAny K (.type "bool") [.type "str"] = some false) = true from (c.fact 87 (f := q87) rfl)))
        · exact (of_decide_eq_true (show decide (PySem.W.kitAny K (.type "int") [.type "str"] = some false) = true from (c.fact 88 (f := q88) rfl)))
        · exact (of_decide_eq_true (show decide (PySem.W.kitAny K (.type "str") [.type "str"] = some true) = true from (c.fact 89 (f := q89) rfl)))
        · exact (of_decide_eq_true (show decide (PySem.W.kitAny K (.type "tuple") [.type "str"] = some false) = true from (c.fact 90 (f := q90) rfl)))
        · exact (of_decide_eq_true (show decide (PySem.W.kitAny K (.type "list") [.type "str"] = some false) = true from (c.fact 91 (f := q91) rfl)))
      · simp only [ans_str, List.mem_cons, List.not_mem_nil, or_false] at hp

    ans_tuple := by
      refine ⟨fun n hn => ?_, fun p hp => ?_⟩
      · simp only [primNames, List.mem_cons, List.not_mem_nil, or_false] at hn
        rcases hn with rfl | rfl | rfl | rfl | rfl | rfl
        · exact (of_decide_eq_true (show decide (PySem.W.kitAny K (.type "NoneType") [.type "tuple"] = some false) = true from (c.fact 92 (f := q92) rfl)))
        · exact (of_decide_eq_true (show decide (PySem.W.kitAny K (.type "bool") [.type "tuple"] = some false) = true from (c.fact 93 (f := q93) rfl)))
        · exact (of_decide_eq_true (show decide (PySem.W.kitAny K (.type "int") [.type "tuple"] = some false) = true from (c.fact 94 (f := q94) rfl)))
        · exact (of_decide_eq_true (show decide (PySem.W.kitAny K (.type "str") [.type "tuple"] = some false) = true from (c.fact 95 (f := q95) rfl)))
        · exact (of_decide_eq_true (show decide (PySem.W.kitAny K (.type "tuple") [.type "tuple"] = some true) = true from (c.fact 96 (f := q96) rfl)))
        · exact (of_decide_eq_true (show decide (PySem.W.kitAny K (.type "list") [.type "tuple"] = some false) = true from (c.fact 97 (f := q97) rfl)))
      · simp only [ans_tuple, List.mem_cons, List.not_mem_nil, or_false] at hp

  }
  have e := hfa.symm.trans (He.glo_ok X G (c.fact 29 (f := q29) rfl))
  cases e
  have b := FunD.bindsA (ps := ["_law_script"]) F21 fun _ _ _ _ _ _ us hl => match us, hl with | [_], _ => rfl
  exact ⟨fd21, _, trivial, fun s v => b s [v] rfl, fun base _ _ => ok_law T F21⟩
theorem law_end {l : PySem.W.OpenLaw} {n : Nat} {q : Program} {loose : List Str} {XP : (Str → Option Value) → Heap → Prop} {d : DefRec} (hn : l.most = some 63) (hdf : d.params.defaults = []) (hnm : d.name = ("law" : Str)) :
    PySem.W.WalkO q loose XP (hookK n fs ds).says l.row.toRowW d [] (fun f vs => PySem.call f vs) := by
  refine walk_ofK (n := 63) (k := 12) (x := "_law_script") hn (by decide) hdf ⟨rfl, by decide, by decide⟩ fun w mg fa h Y G hmg => ?_
  obtain ⟨K, KX, c⟩ := Y
  rw [hnm] at hmg
  obtain ⟨fd, cc, hc, hb, hF⟩ := facts (P := l.prog) (w := w) KX G hmg c
  exact ⟨K, fd, spLaw K, KX, hb, fun H a ns hl hS => ⟨a, ns, rfl, hS, hl, (fun _ h => nomatch h), fun _ => rfl⟩, fun base b1 b2 => law_sp (hF base b1 b2) (law_true cc hc)⟩
end W
open PySem PySem.W PyProof.Rows
set_option maxRecDepth 100000 in
set_option maxHeartbeats 0 in
theorem PySem.Challenge.cw_bothgreen_k52_whole_gaps_of_spaced_momen_holds : PySem.Challenge.rw_bothgreen_k52_whole_gaps_of_spaced_momen.Holds := by
  w_on; o_law
  refine HandSHeadRun.head_any (r := W.R0) (q := W.qv) (H := DL.hookK 5 W.fs W.ds) (ob := W.ob) (M := 40000) (loose := W.loose) (d := HandSHeadRun.topDef W.R0.prog 31) (kwd := []) W.ob_eq (by kernel_rfl) (fun s => by kernel_rfl) W.run (by kernel_rfl) (by kernel_rfl) (by kernel_rfl) (by rfl) (by first | assumption | decide +kernel) (by decide +kernel) ⟨rfl, rfl, rfl, rfl, rfl, by decide +kernel⟩ ?hw ?hc
  case hw => w_witness2
  case hc => exact W.law_end (l := PySem.Challenge.rw_bothgreen_k52_whole_gaps_of_spaced_momen) rfl (by kernel_rfl) (by kernel_rfl)

