import PyProof.Rows.All
import HandS.ForMost
import HandS.ForExc
import HandS.Head0
import HandS.Head1
import HandS.Head2
import HandS.HeadHook1
import HandS.HeadHook2
import PySem.Challenge.RW_bothgreen_k12_whole_fewest_covers
import Wide.All
import OpenK.AllK
import Wide.FinOn
import HandS.IsInst
import HandS.Zip
import HandS.Wide
import HandS.FStr
import HandS.Property
import HandS.Defaults
import HandS.OwnEq
import HandS.ExcInit
import HandS.Lambda
import KE.KOpsOwn
import KE.KCallOwn
import KE.KFmtOwn
import HandS.Style
import PyProof.FactsAll.object_2
import HandS.More
import HandS.NoneIn
import HandS.Text
import HandS.Iter
import HandS.TupAny
import HandS.Deep
import HandS.Conv
import HandS.Comp
import HandS.Star
import HandS.SortInts
import HandS.ClsMeth
import KE.DataMinMax
import HandS.SortKw
set_option Elab.async false
set_option linter.all false
set_option maxRecDepth 100000
set_option maxHeartbeats 4000000
/-! What is asked of the head: where things stand, by names; facts; defs; the Hook. It stands ahead of all else, so that the top's run is checked while memory is still free. -/
namespace DL
open PySem PySem.Spec PyProof.Rows L2
/-! ### where things stand, by names -/
/-- what a record (a property, a staticmethod, a classmethod) holds first -/
def recFn (K : PySem.W.Frag) (T : String) (p : Addr) : Addr := match PySem.W.recIn K p T with
  | some (.ref f :: _) => f
  | _ => 0
/-- the record behind a static method -/
def staP (K : PySem.W.Frag) (C : Str) (m : Str) : Addr := match PySem.W.findCls K (.ref (He.ga K C)) (.type "type") m with
  | some (.get _ (.ref p) _ _) => p
  | _ => 0
inductive Ad where
  | glo (x : Str)
  | meth (C m : Str)
  | prop (C m : Str)
  | stat (C m : Str)
  | clm (C m : Str)
def Ad.at_ (K : PySem.W.Frag) : Ad → Addr
  | .glo x => He.ga K x
  | .meth C m => He.ma K (He.ga K C) m
  | .prop C m => recFn K "property" (He.ma K (He.ga K C) m)
  | .stat C m => recFn K "staticmethod" (staP K C m)
  | .clm C m => recFn K "classmethod" (staP K C m)
/-! ### facts -/
inductive Fk where
  | he (f : He.Fa)
  | atr (C m : Str)              -- a class's attribute is an object
  | fn (a : Ad)
  | keep (a : Ad)
  | rec_ (T : String) (p : PySem.W.Frag → Addr)
  | b (f : PySem.W.Frag → Bool)
def recB (K : PySem.W.Frag) (T : String) (p : Addr) : Bool := match PySem.W.recIn K p T with
  | some (.ref _ :: _) => true
  | _ => false
theorem recB_ok {K : PySem.W.Frag} {T : String} {p : Addr} (h : recB K T p = true) : ∃ rest, PySem.W.recIn K p T = some (.ref (recFn K T p) :: rest) := by
  unfold recB at h
  unfold recFn
  split at h
  · rename_i a rest e
    exact ⟨rest, by rw [e]⟩
  · cases h
def staB (K : PySem.W.Frag) (C m : Str) : Bool := match PySem.W.findCls K (.ref (He.ga K C)) (.type "type") m with
  | some (.get (.builtin id) (.ref _) .none (.ref D)) => decide (id = "staticmethod.__get__") && decide (D = He.ga K C)
  | _ => false
theorem staB_ok {K : PySem.W.Frag} {C m : Str} (h : staB K C m = true) : PySem.W.findCls K (.ref (He.ga K C)) (.type "type") m = some (.get (.builtin "staticmethod.__get__") (.ref (staP K C m)) .none (.ref (He.ga K C))) := by
  unfold staB at h
  unfold staP
  split at h
  · rename_i id p D e
    obtain ⟨h1, h2⟩ := He.ba h
    have e1 := of_decide_eq_true h1
    have e2 := of_decide_eq_true h2
    subst e1 e2
    rw [e]
  · cases h
def clmB (K : PySem.W.Frag) (C m : Str) : Bool := match PySem.W.findCls K (.ref (He.ga K C)) (.type "type") m with
  | some (.get (.builtin id) (.ref _) .none (.ref D)) => decide (id = "classmethod.__get__") && decide (D = He.ga K C)
  | _ => false
theorem clmB_ok {K : PySem.W.Frag} {C m : Str} (h : clmB K C m = true) : PySem.W.findCls K (.ref (He.ga K C)) (.type "type") m = some (.get (.builtin "classmethod.__get__") (.ref (staP K C m)) .none (.ref (He.ga K C))) := by
  unfold clmB at h
  unfold staP
  split at h
  · rename_i id p D e
    obtain ⟨h1, h2⟩ := He.ba h
    have e1 := of_decide_eq_true h1
    have e2 := of_decide_eq_true h2
    subst e1 e2
    rw [e]
  · cases h
/-- a whole number in a class -/
def conB (K : PySem.W.Frag) (C f : Str) (n : Int) : Bool := match PySem.W.findCls K (.ref (He.ga K C)) (.type "type") f with
  | some (.val (.int k _)) => decide (k = n)
  | _ => false
theorem conB_ok {K : PySem.W.Frag} {C f : Str} {n : Int} (h : conB K C f n = true) : ∃ t, PySem.W.findCls K (.ref (He.ga K C)) (.type "type") f = some (.val (.int n t)) := by
  unfold conB at h
  split at h
  · rename_i k t e
    obtain rfl := of_decide_eq_true h
    exact ⟨t, e⟩
  · cases h
theorem eqO_of {a b : Option (Option Value)} (h : He.eqO a b = true) : a = b := He.eqO_ok h
/-! ### defs -/
abbrev FnK : Type := Option (Str × Str × Arguments × FuncBody × Scope × Addr × List (Str × Addr) × Addr)
def fnK (K : PySem.W.Frag) (a : Addr) : FnK := match K.lookup a with
  | some ⟨_, _, .func g, _⟩ => some (g.name, g.qualname, g.params, g.body, g.scope, g.globals, g.closure, g.builtins)
  | _ => none
structure DefK where
  ad : Ad
  name : Str
  qual : Str
  params : Arguments
  body : List Stmt
  scope : Scope
  dfl : List V := []
def DefK.seen (d : DefK) : FnK := some (d.name, d.qual, d.params, .stmts d.body, d.scope, mainGlobals, [], builtinsNs)
def DefK.okB (K : PySem.W.Frag) (d : DefK) : Bool := PySem.W.keepIn K (.ref (d.ad.at_ K)) && (match K.lookup (d.ad.at_ K) with
  | some ⟨_, _, .func g, _⟩ => PySem.W.codeIn K g.code d.qual && He.dflB K g.defaults d.dfl
  | _ => false)
/-! ### the Hook -/
abbrev AlK : Type := Bool × List FnK
def obsK (fs : List (PySem.W.Frag → Bool)) (ds : List DefK) (K : PySem.W.Frag) : AlK := ((fs.all fun f => f K) && ds.all fun d => d.okB K, ds.map fun d => fnK K (d.ad.at_ K))
def valK (ds : List DefK) : AlK := (true, ds.map DefK.seen)
def SaysK (fs : List (PySem.W.Frag → Bool)) (ds : List DefK) (K : PySem.W.Frag) : Prop := obsK fs ds K = valK ds
/-- what an object names that is looked at: a namespace's values, a class's namespace, a function's code and defaults, a record's function -/
def refK (o : Obj) : List Addr := match o.data with
  | .dict es _ => es.toList.flatMap fun e => He.refV e.val
  | .cls cd => [cd.ns]
  | .func fd => He.refV fd.code ++ He.refV fd.defaults
  | .fields vs => (match o.cls with
    | .type c => (match decide (c = "property") || (decide (c = "staticmethod") || decide (c = "classmethod")) with
      | true => vs.toList.flatMap He.refV
      | false => [])
    | _ => [])
  | _ => []
def nextK (g : Addr → Option Obj) (l : List Addr) : List Addr := l.flatMap fun a => match g a with
  | some o => refK o
  | none => []
def asK (g : Addr → Option Obj) : Nat → List Addr → List Addr
  | 0, l => l
  | n + 1, l => l ++ asK g n (nextK g l)
def obsKG (n : Nat) (fs : List (PySem.W.Frag → Bool)) (ds : List DefK) (g : Addr → Option Obj) : AlK := obsK fs ds (He.frG g (asK g n [mainGlobals]))
def hookK (n : Nat) (fs : List (PySem.W.Frag → Bool)) (ds : List DefK) : PySem.W.Hook where
  α := AlK
  obs := fun s => obsKG n fs ds s.heap.get?
  val := fun _ => valK ds
  says := fun _ h => ∃ K : PySem.W.Frag, K.In h ∧ SaysK fs ds K
  of := fun _ _ e => ⟨_, He.frG_in, e⟩
  keeps := fun _ _ _ ⟨K, hK, c⟩ k => ⟨K, PySem.W.Frag.In.keeps hK k, c⟩
theorem obsKG_eq {n : Nat} {fs : List (PySem.W.Frag → Bool)} {ds : List DefK} {g : Addr → Option Obj} {s : Shared} (h : ∀ a, g a = s.heap.get? a) : obsKG n fs ds g = (hookK n fs ds).obs s := by
  obtain rfl : g = s.heap.get? := funext h
  rfl
/-! ### where a lambda stands in a text -/
def subE : Expr → List Expr
  | .List es _ => es
  | .Tuple es _ _ => es
  | .Call f es _ _ => f :: es
  | .BinOp a _ b _ => [a, b]
  | .BoolOp _ es _ => es
  | .Compare a _ bs _ => a :: bs
  | .Subscript a b _ => [a, b]
  | .IfExp c a b _ => [c, a, b]
  | .UnaryOp _ a _ => [a]
  | .Starred a _ => [a]
  | .Attribute a _ _ => [a]
  | _ => []
def subS : Stmt → List Expr
  | .Assign _ v _ => [v]
  | .Return (some v) _ => [v]
  | .Expr v _ => [v]
  | .If c _ _ _ => [c]
  | _ => []
def bodS : Stmt → List Stmt
  | .If _ b o _ => b ++ o
  | .For _ _ b o _ => b ++ o
  | .While _ b o _ => b ++ o
  | .FunctionDef .. => []
  | _ => []
def exAt (e : Expr) : List Nat → Expr
  | [] => e
  | i :: r => exAt ((subE e).getD i e) r
def stAt (s : Stmt) : List Nat → Stmt
  | [] => s
  | i :: r => stAt ((bodS s).getD i s) r
def lamP : Expr → Arguments
  | .Lambda p _ _ _ => p
  | _ => ⟨[], [], none, [], [], none, []⟩
def lamB : Expr → Expr
  | .Lambda _ b _ _ => b
  | e => e
def lamS : Expr → Scope
  | .Lambda _ _ s _ => s
  | _ => default
/-! ### code objects and their tables -/
def funCodeA (K : PySem.W.Frag) (f : Addr) : Value := match K.lookup f with
  | some ⟨_, _, .func fd, _⟩ => fd.code
  | _ => .none
def codeA (K : PySem.W.Frag) (f : Addr) : Addr := match funCodeA K f with
  | .ref c => c
  | _ => 0
def tabA (K : PySem.W.Frag) (f : Addr) : Addr := match K.lookup (codeA K f) with
  | some ⟨_, _, .fields vs, _⟩ => (match vs.getD 11 .none with
    | .ref P => P
    | _ => 0)
  | _ => 0
def codeB (K : PySem.W.Frag) (f : Addr) : Bool := match funCodeA K f with
  | .ref c => (match K.lookup c with
    | some ⟨.type t, _, .fields vs, _⟩ => decide (t = "code") && (match vs.getD 11 .none, vs.getD 18 .none, vs.getD 7 .none, vs.getD 9 .none, vs.getD 10 .none with
      | .ref P, .str _ _, .int _ _, .bool _, .int _ _ => decide (11 < vs.size) && (decide (c ≠ P) && (K.lookup P).isNone)
      | _, _, _, _, _ => false)
    | _ => false)
  | _ => false
def emptyT : Option Obj → Bool
  | some ⟨.none, none, .fields a, sl⟩ => a.isEmpty && sl.isEmpty
  | _ => false
theorem emptyT_ok {o : Option Obj} (h : emptyT o = true) : o = some { cls := .none, data := .fields #[] } := by
  unfold emptyT at h
  split at h
  · obtain ⟨h1, h2⟩ := He.ba h
    rw [Array.isEmpty_iff] at h1 h2
    subst h1 h2
    rfl
  · cases h
/-! ### defs that hold __class__ -/
abbrev FnKS : Type := Option (Str × Str × Arguments × FuncBody × Scope × Addr × List Str × Addr)
def fnKS (K : PySem.W.Frag) (a : Addr) : FnKS := match K.lookup a with
  | some ⟨_, _, .func g, _⟩ => some (g.name, g.qualname, g.params, g.body, g.scope, g.globals, g.closure.map (·.1), g.builtins)
  | _ => none
def celA (K : PySem.W.Frag) (a : Addr) : Addr := match K.lookup a with
  | some ⟨_, _, .func g, _⟩ => (match g.closure with
    | (_, c) :: _ => c
    | [] => 0)
  | _ => 0
structure DefS where
  ad : Ad
  name : Str
  qual : Str
  params : Arguments
  body : List Stmt
  scope : Scope
  cl : Str
  file : Str
def DefS.seen (d : DefS) : FnKS := some (d.name, d.qual, d.params, .stmts d.body, d.scope, mainGlobals, ["__class__"], builtinsNs)
def fileB (K : PySem.W.Frag) (file : Str) (v : Value) : Bool := match v with
  | .ref c => (match K.lookup c with
    | some ⟨_, _, .fields vs, _⟩ => (match vs.getD 2 .none with
      | .str f _ => decide (2 < vs.size) && (file == f)
      | _ => false)
    | _ => false)
  | _ => false
def DefS.okB (K : PySem.W.Frag) (d : DefS) : Bool := PySem.W.keepIn K (.ref (d.ad.at_ K)) && ((match K.lookup (celA K (d.ad.at_ K)) with
    | some ⟨_, _, .cell (some (.ref D)), _⟩ => decide (D = He.ga K d.cl) && (PySem.W.clsIn K D).isSome
    | _ => false) && (match K.lookup (d.ad.at_ K) with
  | some ⟨_, _, .func g, _⟩ => PySem.W.codeIn K g.code d.qual && (He.dflB K g.defaults [] && fileB K d.file g.code)
  | _ => false))
/-! ### the Hook -/
def refK2 (o : Obj) : List Addr := match o.data with
  | .dict es _ => es.toList.flatMap fun e => He.refV e.val
  | .cls cd => [cd.ns]
  | .func fd => He.refV fd.code ++ (He.refV fd.defaults ++ fd.closure.map (·.2))
  | .cell (some v) => He.refV v
  | .fields vs => (match o.cls with
    | .type c => (match decide (c = "property") || (decide (c = "staticmethod") || decide (c = "classmethod")) with
      | true => vs.toList.flatMap He.refV
      | false => [])
    | _ => [])
  | _ => []
def nextK2 (g : Addr → Option Obj) (l : List Addr) : List Addr := l.flatMap fun a => match g a with
  | some o => refK2 o
  | none => []
def asK2 (g : Addr → Option Obj) : Nat → List Addr → List Addr
  | 0, l => l
  | n + 1, l => l ++ asK2 g n (nextK2 g l)
def isClsO : Option Obj → Bool
  | some ⟨_, _, .cls _, _⟩ => true
  | _ => false
/-- the places that are looked at, those asked for most often first -/
def asX2 (g : Addr → Option Obj) (l1 : List Addr) (cl ns at_ fu c1 : List Addr) : List Addr := [mainGlobals, cStatics] ++ (cl ++ (ns ++ (at_ ++ (fu ++ (c1 ++ (nextK2 g fu ++ (nextK2 g c1 ++ nextK2 g (nextK2 g fu))))))))
def asX1 (g : Addr → Option Obj) (l1 cl fu : List Addr) : List Addr := asX2 g l1 cl (nextK2 g cl) (nextK2 g (nextK2 g cl)) fu (nextK2 g (nextK2 g (nextK2 g cl)))
def asX0 (g : Addr → Option Obj) (l1 : List Addr) : List Addr := asX1 g l1 (l1.filter fun a => isClsO (g a)) (l1.filter fun a => !isClsO (g a))
def asX (g : Addr → Option Obj) (_ : Nat) : List Addr := asX0 g (nextK2 g [mainGlobals, cStatics])
/-- what is asked of the head: facts, defs, defs that hold __class__, makers of lambdas -/
structure Hd where
  fs : List (PySem.W.Frag → Bool)
  ds : List DefK
  ss : List DefS
  ms : List Str
/-- the name that a def's code object tells -/
def codeQ (K : PySem.W.Frag) (a : Addr) : Option Str := match K.lookup a with
  | some ⟨_, _, .func g, _⟩ => (match g.code with
    | .ref c => (match K.lookup c with
      | some ⟨_, _, .fields vs, _⟩ => (match vs.toList with
        | _ :: .str n _ :: _ => some n
        | _ => none)
      | _ => none)
    | _ => none)
  | _ => none
def DefK.okB1 (K : PySem.W.Frag) (d : DefK) : Bool := PySem.W.keepIn K (.ref (d.ad.at_ K)) && (match K.lookup (d.ad.at_ K) with
  | some ⟨_, _, .func g, _⟩ => He.dflB K g.defaults d.dfl
  | _ => false)
theorem okB_of {K : PySem.W.Frag} {d : DefK} (h1 : d.okB1 K = true) (h2 : codeQ K (d.ad.at_ K) = some d.qual) : d.okB K = true := by
  unfold DefK.okB1 at h1
  obtain ⟨a1, a2⟩ := He.ba h1
  unfold DefK.okB
  rw [a1, Bool.true_and]
  unfold codeQ at h2
  revert a2 h2
  cases K.lookup (d.ad.at_ K) with
  | none => intro a _; cases a
  | some o =>
    obtain ⟨o1, o2, od, o3⟩ := o
    cases od with
    | func g =>
      intro h2 a2
      dsimp only at a2 h2 ⊢
      rw [a2, Bool.and_true]
      unfold PySem.W.codeIn
      revert h2
      cases g.code with
      | ref cc =>
        intro h2
        dsimp only at h2 ⊢
        revert h2
        cases K.lookup cc with
        | none => intro h; cases h
        | some o =>
          obtain ⟨p1, p2, pd, p3⟩ := o
          cases pd with
          | fields vs =>
            intro h2
            dsimp only at h2 ⊢
            split at h2
            · rename_i n t r e
              obtain rfl := Option.some.inj h2
              simp only [e, beq_self_eq_true]
            · cases h2
          | _ => intro h; cases h
      | _ => intro h; cases h
    | _ => intro a; cases a
abbrev AlX : Type := Bool × List FnK × List FnKS × List (Option Str)
def Hd.obsK (q : Hd) (g : Addr → Option Obj) (K : PySem.W.Frag) : AlX :=
  ((q.fs.all fun f => f K) && ((q.ds.all fun d => d.okB1 K) && ((q.ss.all fun d => d.okB K) && (q.ms.all fun x => codeB K (He.ga K x) && emptyT (g (tabA K (He.ga K x)))))), q.ds.map fun d => fnK K (d.ad.at_ K), q.ss.map fun d => fnKS K (d.ad.at_ K), q.ds.map fun d => codeQ K (d.ad.at_ K))
def Hd.val (q : Hd) : AlX := (true, q.ds.map DefK.seen, q.ss.map DefS.seen, q.ds.map fun d => some d.qual)
def Hd.obsG (q : Hd) (n : Nat) (g : Addr → Option Obj) : AlX := q.obsK g (He.frG g (asX g n))
/-- what is known of a written part K of the heap h -/
structure Hd.Says (q : Hd) (h : Heap) (K : PySem.W.Frag) : Prop where
  kin : K.In h
  fs : ∀ f ∈ q.fs, f K = true
  ds : ∀ d ∈ q.ds, d.okB K = true
  ss : ∀ d ∈ q.ss, d.okB K = true
  ms : ∀ x ∈ q.ms, codeB K (He.ga K x) = true ∧ h.get? (tabA K (He.ga K x)) = some { cls := .none, data := .fields #[] }
  dk : q.ds.map (fun d => fnK K (d.ad.at_ K)) = q.ds.map DefK.seen
  sk : q.ss.map (fun d => fnKS K (d.ad.at_ K)) = q.ss.map DefS.seen
def Hd.hook (q : Hd) (n : Nat) : PySem.W.Hook where
  α := AlX
  obs := fun s => q.obsG n s.heap.get?
  val := fun _ => q.val
  says := fun _ h => ∃ K : PySem.W.Frag, q.Says h K
  of := fun _ s e => by
    have e : q.obsK s.heap.get? (He.frG s.heap.get? (asX s.heap.get? n)) = q.val := e
    generalize hK : He.frG s.heap.get? (asX s.heap.get? n) = K at e
    have e1 := congrArg Prod.fst e
    have e2 := congrArg (fun z : AlX => z.2.1) e
    have e3 := congrArg (fun z : AlX => z.2.2.1) e
    have e4 : (q.ds.map fun d => codeQ K (d.ad.at_ K)) = q.ds.map fun d => some d.qual := congrArg (fun z : AlX => z.2.2.2) e
    have e1 : ((q.fs.all fun f => f K) && ((q.ds.all fun d => d.okB1 K) && ((q.ss.all fun d => d.okB K) && (q.ms.all fun x => codeB K (He.ga K x) && emptyT (s.heap.get? (tabA K (He.ga K x))))))) = true := e1
    obtain ⟨a1, e1⟩ := He.ba e1
    obtain ⟨a2, e1⟩ := He.ba e1
    obtain ⟨a3, a4⟩ := He.ba e1
    refine ⟨K, by rw [← hK]; exact He.frG_in, List.all_eq_true.mp a1, fun d hd => okB_of (List.all_eq_true.mp a2 d hd) (List.map_inj_left.mp e4 d hd), List.all_eq_true.mp a3, fun x hx => ?_, e2, e3⟩
    obtain ⟨b1, b2⟩ := He.ba (List.all_eq_true.mp a4 x hx)
    exact ⟨b1, emptyT_ok b2⟩
  keeps := fun _ _ _ ⟨K, c⟩ k => ⟨K, PySem.W.Frag.In.keeps c.kin k, c.fs, c.ds, c.ss, fun x hx => ⟨(c.ms x hx).1, k _ _ (c.ms x hx).2⟩, c.dk, c.sk⟩
theorem Hd.obs_eq {q : Hd} {n : Nat} {g : Addr → Option Obj} {s : Shared} (h : ∀ a, g a = s.heap.get? a) : q.obsG n g = (q.hook n).obs s := by
  obtain rfl : g = s.heap.get? := funext h
  rfl
/-! ### the top's run in parts: each part is checked by itself, so that no check holds all of it -/
open PySem.W PySem.Calls in
noncomputable def EndE (r : PySem.W.OpenRow) (M : Nat) (w : World) (os : OsState) : Option PySem.W.SharedT := HandSHeadRun.endF (HandSHeadRun.stepQ (HandSHeadRun.denQ HandSHeadRun.tabQ) r.prog w) M r.prog w os
open PySem.W PySem.Calls in
def LookE (r : PySem.W.OpenRow) (M : Nat) (w : World) : Prop := ∀ os : OsState, (EndE r M w os).map (fun s => HandSHeadRun.looksF r.prog (boot_heap w.params) s.abs) = some true
open PySem.W PySem.Calls in
def SeenE (r : PySem.W.OpenRow) (q : Program) (M : Nat) (loose : List PySem.Str) (w : World) : Prop := ∀ os : OsState, (EndE r M w os).map (fun s => HandSHeadRun.seenQ q loose (importedModules r.prog.main.body) (fun s => xlAt q [] s && recOk r.toRowW.records s) s.abs) = some (openGood q loose)
def AskE (r : PySem.W.OpenRow) (Q : Hd) (M : Nat) (w : World) : Prop := ∀ os : OsState, (EndE r M w os).map (fun s => Q.obsG 5 (HandSHeadRun.getT s)) = some Q.val
theorem ba_of {a b : Bool} (h1 : a = true) (h2 : b = true) : (a && b) = true := by rw [h1, h2]; rfl
/-- two parts of what is asked -/
def Hd.app (a b : Hd) : Hd := ⟨a.fs ++ b.fs, a.ds ++ b.ds, a.ss ++ b.ss, a.ms ++ b.ms⟩
theorem Hd.val_iff {q : Hd} {g : Addr → Option Obj} {K : PySem.W.Frag} : q.obsK g K = q.val ↔ (((q.fs.all fun f => f K) && ((q.ds.all fun d => d.okB1 K) && ((q.ss.all fun d => d.okB K) && (q.ms.all fun x => codeB K (He.ga K x) && emptyT (g (tabA K (He.ga K x))))))) = true ∧ q.ds.map (fun d => fnK K (d.ad.at_ K)) = q.ds.map DefK.seen ∧ q.ss.map (fun d => fnKS K (d.ad.at_ K)) = q.ss.map DefS.seen ∧ (q.ds.map fun d => codeQ K (d.ad.at_ K)) = q.ds.map fun d => some d.qual) := by
  unfold Hd.obsK Hd.val
  rw [Prod.mk.injEq, Prod.mk.injEq, Prod.mk.injEq]
theorem Hd.join {a b : Hd} {g : Addr → Option Obj} {K : PySem.W.Frag} (h1 : a.obsK g K = a.val) (h2 : b.obsK g K = b.val) : (a.app b).obsK g K = (a.app b).val := by
  rw [Hd.val_iff] at h1 h2 ⊢
  obtain ⟨a1, a2, a3, a4⟩ := h1
  obtain ⟨b1, b2, b3, b4⟩ := h2
  obtain ⟨p1, a1⟩ := He.ba a1
  obtain ⟨p2, a1⟩ := He.ba a1
  obtain ⟨p3, p4⟩ := He.ba a1
  obtain ⟨r1, b1⟩ := He.ba b1
  obtain ⟨r2, b1⟩ := He.ba b1
  obtain ⟨r3, r4⟩ := He.ba b1
  unfold Hd.app
  dsimp only
  refine ⟨?_, ?_, ?_, ?_⟩
  · rw [List.all_append, List.all_append, List.all_append, List.all_append]
    exact ba_of (ba_of p1 r1) (ba_of (ba_of p2 r2) (ba_of (ba_of p3 r3) (ba_of p4 r4)))
  · rw [List.map_append, List.map_append, a2, b2]
  · rw [List.map_append, List.map_append, a3, b3]
  · rw [List.map_append, List.map_append, a4, b4]
theorem AskE.join {r : PySem.W.OpenRow} {a b : Hd} {M : Nat} {w : World} (h1 : AskE r a M w) (h2 : AskE r b M w) : AskE r (a.app b) M w := fun os => by
  have k1 := h1 os
  have k2 := h2 os
  cases e : EndE r M w os with
  | none => rw [e] at k1; cases k1
  | some s =>
    rw [e] at k1 k2
    have k1 := Option.some.inj k1
    have k2 := Option.some.inj k2
    exact congrArg some (Hd.join k1 k2)
theorem runE {r : PySem.W.OpenRow} {q : Program} {Q : Hd} {M : Nat} {loose : List PySem.Str} {w : World} (h1 : LookE r M w) (h2 : SeenE r q M loose w) (h3 : AskE r Q M w) : HandSHeadRun.RunEq r q (Q.hook 5) (fun s => Q.obsG 5 (HandSHeadRun.getT s)) M loose w := fun os => by
  have k1 := h1 os
  have k2 := h2 os
  have k3 := h3 os
  unfold EndE at k1 k2 k3
  obtain ⟨E, hE⟩ : ∃ E, HandSHeadRun.endF (HandSHeadRun.stepQ (HandSHeadRun.denQ HandSHeadRun.tabQ) r.prog w) M r.prog w os = E := ⟨_, rfl⟩
  rw [hE] at k1 k2 k3 ⊢
  cases E with
  | none => cases k1
  | some s =>
    have k1 := Option.some.inj k1
    have k2 := Option.some.inj k2
    have k3 := Option.some.inj k3
    exact congrArg some (Prod.ext k1 (Prod.ext k2 k3))
end DL

set_option maxHeartbeats 0
namespace W
open PySem PySem.Spec PyProof.Rows L2 DL
def topS (i : Nat) : Stmt := PySem.Challenge.pw_bothgreen_k12_whole_fewest_covers.main.body.getD i (.Pass ⟨0, 0, 0, 0⟩)
abbrev s_w_begin : Stmt := (topS 22)
abbrev s_w_take : Stmt := (topS 23)
abbrev s_is_ratio : Stmt := (topS 13)
abbrev s_is_whole : Stmt := (topS 6)
abbrev s_common_divisor : Stmt := (topS 10)
abbrev s_RatioD_initD : Stmt := (inClass (topS 12) 0)
abbrev s_Ratio_bottom : Stmt := (inClass (topS 12) 3)
abbrev s_Ratio_top : Stmt := (inClass (topS 12) 2)
abbrev s_Ratio_is_below : Stmt := (inClass (topS 12) 11)
abbrev s_is_between : Stmt := (topS 14)
abbrev s_Ratio_moment : Stmt := (inClass (topS 12) 10)
abbrev s_ArcD_initD : Stmt := (inClass (topS 18) 0)
abbrev s_w_choices : Stmt := (topS 26)
abbrev s_w_is_in : Stmt := (topS 25)
abbrev s_Arc_width : Stmt := (inClass (topS 18) 3)
abbrev s_Arc_start : Stmt := (inClass (topS 18) 2)
abbrev s_RatioD_addD : Stmt := (inClass (topS 12) 4)
abbrev s_RatioD_subD : Stmt := (inClass (topS 12) 5)
abbrev s_Arc_offset : Stmt := (inClass (topS 18) 8)
abbrev s_RatioD_boolD : Stmt := (inClass (topS 12) 13)
abbrev s_cover_from : Stmt := (topS 19)
abbrev s_fewest_cover : Stmt := (topS 20)
abbrev s_w_like : Stmt := (topS 24)
abbrev s_RatioD_eqD : Stmt := (inClass (topS 12) 12)
abbrev s_ArcD_eqD : Stmt := (inClass (topS 18) 13)
abbrev s_law : Stmt := (topS 27)
end W

set_option maxHeartbeats 0
namespace W
open PySem PySem.Spec PyProof.Rows L2 DL
abbrev dk0 : DefK := ⟨.glo "_law_begin", "_law_begin", "_law_begin", defArgs s_w_begin, defBody s_w_begin, defScope s_w_begin, []⟩
abbrev dk1 : DefK := ⟨.glo "_law_take", "_law_take", "_law_take", defArgs s_w_take, defBody s_w_take, defScope s_w_take, []⟩
abbrev dk2 : DefK := ⟨.glo "is_ratio", "is_ratio", "is_ratio", defArgs s_is_ratio, defBody s_is_ratio, defScope s_is_ratio, []⟩
abbrev dk3 : DefK := ⟨.glo "is_whole", "is_whole", "is_whole", defArgs s_is_whole, defBody s_is_whole, defScope s_is_whole, []⟩
abbrev dk4 : DefK := ⟨.glo "common_divisor", "common_divisor", "common_divisor", defArgs s_common_divisor, defBody s_common_divisor, defScope s_common_divisor, []⟩
abbrev dk5 : DefK := ⟨.meth "Ratio" "__init__", "__init__", "Ratio.__init__", defArgs s_RatioD_initD, defBody s_RatioD_initD, defScope s_RatioD_initD, [.int 1]⟩
abbrev dk6 : DefK := ⟨.prop "Ratio" "bottom", "bottom", "Ratio.bottom", defArgs s_Ratio_bottom, defBody s_Ratio_bottom, defScope s_Ratio_bottom, []⟩
abbrev dk7 : DefK := ⟨.prop "Ratio" "top", "top", "Ratio.top", defArgs s_Ratio_top, defBody s_Ratio_top, defScope s_Ratio_top, []⟩
abbrev dk8 : DefK := ⟨.meth "Ratio" "is_below", "is_below", "Ratio.is_below", defArgs s_Ratio_is_below, defBody s_Ratio_is_below, defScope s_Ratio_is_below, []⟩
abbrev dk9 : DefK := ⟨.glo "is_between", "is_between", "is_between", defArgs s_is_between, defBody s_is_between, defScope s_is_between, []⟩
abbrev dk10 : DefK := ⟨.meth "Ratio" "moment", "moment", "Ratio.moment", defArgs s_Ratio_moment, defBody s_Ratio_moment, defScope s_Ratio_moment, []⟩
abbrev dk11 : DefK := ⟨.meth "Arc" "__init__", "__init__", "Arc.__init__", defArgs s_ArcD_initD, defBody s_ArcD_initD, defScope s_ArcD_initD, []⟩
abbrev dk12 : DefK := ⟨.glo "_law_choices", "_law_choices", "_law_choices", defArgs s_w_choices, defBody s_w_choices, defScope s_w_choices, []⟩
abbrev dk13 : DefK := ⟨.glo "_law_is_in", "_law_is_in", "_law_is_in", defArgs s_w_is_in, defBody s_w_is_in, defScope s_w_is_in, []⟩
abbrev dk14 : DefK := ⟨.prop "Arc" "width", "width", "Arc.width", defArgs s_Arc_width, defBody s_Arc_width, defScope s_Arc_width, []⟩
abbrev dk15 : DefK := ⟨.prop "Arc" "start", "start", "Arc.start", defArgs s_Arc_start, defBody s_Arc_start, defScope s_Arc_start, []⟩
abbrev dk16 : DefK := ⟨.meth "Ratio" "__add__", "__add__", "Ratio.__add__", defArgs s_RatioD_addD, defBody s_RatioD_addD, defScope s_RatioD_addD, []⟩
abbrev dk17 : DefK := ⟨.meth "Ratio" "__sub__", "__sub__", "Ratio.__sub__", defArgs s_RatioD_subD, defBody s_RatioD_subD, defScope s_RatioD_subD, []⟩
abbrev dk18 : DefK := ⟨.meth "Arc" "offset", "offset", "Arc.offset", defArgs s_Arc_offset, defBody s_Arc_offset, defScope s_Arc_offset, []⟩
abbrev dk19 : DefK := ⟨.meth "Ratio" "__bool__", "__bool__", "Ratio.__bool__", defArgs s_RatioD_boolD, defBody s_RatioD_boolD, defScope s_RatioD_boolD, []⟩
abbrev dk20 : DefK := ⟨.glo "cover_from", "cover_from", "cover_from", defArgs s_cover_from, defBody s_cover_from, defScope s_cover_from, []⟩
abbrev dk21 : DefK := ⟨.glo "fewest_cover", "fewest_cover", "fewest_cover", defArgs s_fewest_cover, defBody s_fewest_cover, defScope s_fewest_cover, []⟩
abbrev dk22 : DefK := ⟨.glo "_law_like", "_law_like", "_law_like", defArgs s_w_like, defBody s_w_like, defScope s_w_like, []⟩
abbrev dk23 : DefK := ⟨.meth "Ratio" "__eq__", "__eq__", "Ratio.__eq__", defArgs s_RatioD_eqD, defBody s_RatioD_eqD, defScope s_RatioD_eqD, []⟩
abbrev dk24 : DefK := ⟨.meth "Arc" "__eq__", "__eq__", "Arc.__eq__", defArgs s_ArcD_eqD, defBody s_ArcD_eqD, defScope s_ArcD_eqD, []⟩
abbrev dk25 : DefK := ⟨.glo "law", "law", "law", defArgs s_law, defBody s_law, defScope s_law, []⟩
def q0 (K : PySem.W.Frag) : Bool := (He.Fa.glo "_law_begin").ok K
def q1 (K : PySem.W.Frag) : Bool := (He.Fa.glo "_law_take").ok K
def q2 (K : PySem.W.Frag) : Bool := (He.Fa.glo "is_ratio").ok K
def q3 (K : PySem.W.Frag) : Bool := (He.Fa.glo "is_whole").ok K
def q4 (K : PySem.W.Frag) : Bool := (He.Fa.glo "common_divisor").ok K
def q5 (K : PySem.W.Frag) : Bool := He.eqO (PySem.W.findIn K (.ref (He.ga K "Ratio")) "__init__") (some (some (.ref (He.ma K (He.ga K "Ratio") "__init__"))))
def q6 (K : PySem.W.Frag) : Bool := PySem.W.isFn K (.ref (He.ma K (He.ga K "Ratio") "__init__"))
def q7 (K : PySem.W.Frag) : Bool := He.eqO (PySem.W.specialIn K (.ref (He.ma K (He.ga K "Ratio") "bottom")) "__get__") (some (some (.builtin "property.__get__")))
def q8 (K : PySem.W.Frag) : Bool := decide (PySem.W.takesIn K (.ref (He.ma K (He.ga K "Ratio") "bottom")) = some true)
def q9 (K : PySem.W.Frag) : Bool := recB K "property" (He.ma K (He.ga K "Ratio") "bottom")
def q10 (K : PySem.W.Frag) : Bool := He.eqO (PySem.W.findIn K (.ref (He.ga K "Ratio")) "bottom") (some (some (.ref (He.ma K (He.ga K "Ratio") "bottom"))))
def q11 (K : PySem.W.Frag) : Bool := He.eqO (PySem.W.specialIn K (.ref (He.ma K (He.ga K "Ratio") "top")) "__get__") (some (some (.builtin "property.__get__")))
def q12 (K : PySem.W.Frag) : Bool := decide (PySem.W.takesIn K (.ref (He.ma K (He.ga K "Ratio") "top")) = some true)
def q13 (K : PySem.W.Frag) : Bool := recB K "property" (He.ma K (He.ga K "Ratio") "top")
def q14 (K : PySem.W.Frag) : Bool := He.eqO (PySem.W.findIn K (.ref (He.ga K "Ratio")) "top") (some (some (.ref (He.ma K (He.ga K "Ratio") "top"))))
def q15 (K : PySem.W.Frag) : Bool := He.eqO (PySem.W.findIn K (.ref (He.ga K "Ratio")) "is_below") (some (some (.ref (He.ma K (He.ga K "Ratio") "is_below"))))
def q16 (K : PySem.W.Frag) : Bool := PySem.W.isFn K (.ref (He.ma K (He.ga K "Ratio") "is_below"))
def q17 (K : PySem.W.Frag) : Bool := (He.Fa.glo "is_between").ok K
def q18 (K : PySem.W.Frag) : Bool := He.eqO (PySem.W.findIn K (.ref (He.ga K "Ratio")) "moment") (some (some (.ref (He.ma K (He.ga K "Ratio") "moment"))))
def q19 (K : PySem.W.Frag) : Bool := PySem.W.isFn K (.ref (He.ma K (He.ga K "Ratio") "moment"))
def q20 (K : PySem.W.Frag) : Bool := He.eqO (PySem.W.findIn K (.ref (He.ga K "Arc")) "__init__") (some (some (.ref (He.ma K (He.ga K "Arc") "__init__"))))
def q21 (K : PySem.W.Frag) : Bool := PySem.W.isFn K (.ref (He.ma K (He.ga K "Arc") "__init__"))
def q22 (K : PySem.W.Frag) : Bool := (He.Fa.glo "_law_choices").ok K
def q23 (K : PySem.W.Frag) : Bool := (He.Fa.glo "_law_is_in").ok K
def q24 (K : PySem.W.Frag) : Bool := He.eqO (PySem.W.specialIn K (.ref (He.ma K (He.ga K "Arc") "width")) "__get__") (some (some (.builtin "property.__get__")))
def q25 (K : PySem.W.Frag) : Bool := decide (PySem.W.takesIn K (.ref (He.ma K (He.ga K "Arc") "width")) = some true)
def q26 (K : PySem.W.Frag) : Bool := recB K "property" (He.ma K (He.ga K "Arc") "width")
def q27 (K : PySem.W.Frag) : Bool := He.eqO (PySem.W.findIn K (.ref (He.ga K "Arc")) "width") (some (some (.ref (He.ma K (He.ga K "Arc") "width"))))
def q28 (K : PySem.W.Frag) : Bool := He.eqO (PySem.W.specialIn K (.ref (He.ma K (He.ga K "Arc") "start")) "__get__") (some (some (.builtin "property.__get__")))
def q29 (K : PySem.W.Frag) : Bool := decide (PySem.W.takesIn K (.ref (He.ma K (He.ga K "Arc") "start")) = some true)
def q30 (K : PySem.W.Frag) : Bool := recB K "property" (He.ma K (He.ga K "Arc") "start")
def q31 (K : PySem.W.Frag) : Bool := He.eqO (PySem.W.findIn K (.ref (He.ga K "Arc")) "start") (some (some (.ref (He.ma K (He.ga K "Arc") "start"))))
def q32 (K : PySem.W.Frag) : Bool := He.eqO (PySem.W.findIn K (.ref (He.ga K "Ratio")) "__add__") (some (some (.ref (He.ma K (He.ga K "Ratio") "__add__"))))
def q33 (K : PySem.W.Frag) : Bool := PySem.W.isFn K (.ref (He.ma K (He.ga K "Ratio") "__add__"))
def q34 (K : PySem.W.Frag) : Bool := He.eqO (PySem.W.findIn K (.ref (He.ga K "Ratio")) "__sub__") (some (some (.ref (He.ma K (He.ga K "Ratio") "__sub__"))))
def q35 (K : PySem.W.Frag) : Bool := PySem.W.isFn K (.ref (He.ma K (He.ga K "Ratio") "__sub__"))
def q36 (K : PySem.W.Frag) : Bool := He.eqO (PySem.W.findIn K (.ref (He.ga K "Arc")) "offset") (some (some (.ref (He.ma K (He.ga K "Arc") "offset"))))
def q37 (K : PySem.W.Frag) : Bool := PySem.W.isFn K (.ref (He.ma K (He.ga K "Arc") "offset"))
def q38 (K : PySem.W.Frag) : Bool := He.eqO (PySem.W.findIn K (.ref (He.ga K "Ratio")) "__bool__") (some (some (.ref (He.ma K (He.ga K "Ratio") "__bool__"))))
def q39 (K : PySem.W.Frag) : Bool := PySem.W.isFn K (.ref (He.ma K (He.ga K "Ratio") "__bool__"))
def q40 (K : PySem.W.Frag) : Bool := (He.Fa.glo "cover_from").ok K
def q41 (K : PySem.W.Frag) : Bool := (He.Fa.glo "fewest_cover").ok K
def q42 (K : PySem.W.Frag) : Bool := (He.Fa.glo "_law_like").ok K
def q43 (K : PySem.W.Frag) : Bool := He.eqO (PySem.W.findIn K (.ref (He.ga K "Ratio")) "__eq__") (some (some (.ref (He.ma K (He.ga K "Ratio") "__eq__"))))
def q44 (K : PySem.W.Frag) : Bool := PySem.W.isFn K (.ref (He.ma K (He.ga K "Ratio") "__eq__"))
def q45 (K : PySem.W.Frag) : Bool := He.eqO (PySem.W.findIn K (.ref (He.ga K "Arc")) "__eq__") (some (some (.ref (He.ma K (He.ga K "Arc") "__eq__"))))
def q46 (K : PySem.W.Frag) : Bool := PySem.W.isFn K (.ref (He.ma K (He.ga K "Arc") "__eq__"))
def q47 (K : PySem.W.Frag) : Bool := (He.Fa.glo "law").ok K
def q48 (K : PySem.W.Frag) : Bool := (He.Fa.free "abs").ok K
def q49 (K : PySem.W.Frag) : Bool := (He.Fa.free "all").ok K
def q50 (K : PySem.W.Frag) : Bool := (He.Fa.free "any").ok K
def q51 (K : PySem.W.Frag) : Bool := (He.Fa.free "bool").ok K
def q52 (K : PySem.W.Frag) : Bool := (He.Fa.free "int").ok K
def q53 (K : PySem.W.Frag) : Bool := (He.Fa.free "isinstance").ok K
def q54 (K : PySem.W.Frag) : Bool := (He.Fa.free "len").ok K
def q55 (K : PySem.W.Frag) : Bool := (He.Fa.free "list").ok K
def q56 (K : PySem.W.Frag) : Bool := (He.Fa.free "min").ok K
def q57 (K : PySem.W.Frag) : Bool := (He.Fa.free "range").ok K
def q58 (K : PySem.W.Frag) : Bool := (He.Fa.free "str").ok K
def q59 (K : PySem.W.Frag) : Bool := (He.Fa.free "tuple").ok K
def q60 (K : PySem.W.Frag) : Bool := (He.Fa.free "zip").ok K
def q61 (K : PySem.W.Frag) : Bool := (He.Fa.cls "Arc").ok K
def q62 (K : PySem.W.Frag) : Bool := (He.Fa.glo "Arc").ok K
def q63 (K : PySem.W.Frag) : Bool := (He.Fa.cls "Ratio").ok K
def q64 (K : PySem.W.Frag) : Bool := (He.Fa.glo "Ratio").ok K
def q65 (K : PySem.W.Frag) : Bool := PySem.W.makesIn K (He.ga K "Arc")
def q66 (K : PySem.W.Frag) : Bool := PySem.W.keepIn K (.ref (He.ga K "Arc"))
def q67 (K : PySem.W.Frag) : Bool := PySem.W.makesIn K (He.ga K "Ratio")
def q68 (K : PySem.W.Frag) : Bool := PySem.W.keepIn K (.ref (He.ga K "Ratio"))
def q69 (K : PySem.W.Frag) : Bool := PySem.W.selfFirst K (He.ga K "Ratio")
def q70 (K : PySem.W.Frag) : Bool := (He.Fa.noat "Arc" "own_start").ok K
def q71 (K : PySem.W.Frag) : Bool := (He.Fa.noat "Arc" "own_width").ok K
def q72 (K : PySem.W.Frag) : Bool := (He.Fa.noat "Ratio" "own_bottom").ok K
def q73 (K : PySem.W.Frag) : Bool := (He.Fa.noat "Ratio" "own_top").ok K
def q74 (K : PySem.W.Frag) : Bool := He.eqO (PySem.W.specialIn K (.builtin "object.__class__") "__get__") (some (some (.builtin "getset_descriptor.__get__")))
def q75 (K : PySem.W.Frag) : Bool := decide (PySem.W.takesIn K (.builtin "object.__class__") = some true)
def q76 (K : PySem.W.Frag) : Bool := He.eqO (PySem.W.findIn K (.ref (He.ga K "Arc")) "__class__") (some (some (.builtin "object.__class__")))
def q77 (K : PySem.W.Frag) : Bool := decide (PySem.W.mroIn K (He.ga K "Arc") (.type "object") = some true)
def q78 (K : PySem.W.Frag) : Bool := He.eqO (PySem.W.findIn K (.ref (He.ga K "Ratio")) "__class__") (some (some (.builtin "object.__class__")))
def q79 (K : PySem.W.Frag) : Bool := decide (PySem.W.mroIn K (He.ga K "Ratio") (.type "object") = some true)
def q80 (K : PySem.W.Frag) : Bool := PySem.W.notFirst K (He.ga K "Arc") (.ref (He.ga K "Arc"))
def q81 (K : PySem.W.Frag) : Bool := PySem.W.notFirst K (He.ga K "Arc") (.type "list")
def q82 (K : PySem.W.Frag) : Bool := PySem.W.notFirst K (He.ga K "Ratio") (.ref (He.ga K "Ratio"))
def q83 (K : PySem.W.Frag) : Bool := decide (PySem.W.kitAny K (.type "NoneType") [.ref (He.ga K "Arc")] = some false)
def q84 (K : PySem.W.Frag) : Bool := decide (PySem.W.kitAny K (.type "bool") [.ref (He.ga K "Arc")] = some false)
def q85 (K : PySem.W.Frag) : Bool := decide (PySem.W.kitAny K (.type "int") [.ref (He.ga K "Arc")] = some false)
def q86 (K : PySem.W.Frag) : Bool := decide (PySem.W.kitAny K (.type "str") [.ref (He.ga K "Arc")] = some false)
def q87 (K : PySem.W.Frag) : Bool := decide (PySem.W.kitAny K (.type "tuple") [.ref (He.ga K "Arc")] = some false)
def q88 (K : PySem.W.Frag) : Bool := decide (PySem.W.kitAny K (.type "list") [.ref (He.ga K "Arc")] = some false)
def q89 (K : PySem.W.Frag) : Bool := decide (PySem.W.kitAny K (.ref (He.ga K "Arc")) [.ref (He.ga K "Arc")] = some true)
def q90 (K : PySem.W.Frag) : Bool := decide (PySem.W.kitAny K (.type "NoneType") [.ref (He.ga K "Ratio")] = some false)
def q91 (K : PySem.W.Frag) : Bool := decide (PySem.W.kitAny K (.type "bool") [.ref (He.ga K "Ratio")] = some false)
def q92 (K : PySem.W.Frag) : Bool := decide (PySem.W.kitAny K (.type "int") [.ref (He.ga K "Ratio")] = some false)
def q93 (K : PySem.W.Frag) : Bool := decide (PySem.W.kitAny K (.type "str") [.ref (He.ga K "Ratio")] = some false)
def q94 (K : PySem.W.Frag) : Bool := decide (PySem.W.kitAny K (.type "tuple") [.ref (He.ga K "Ratio")] = some false)
def q95 (K : PySem.W.Frag) : Bool := decide (PySem.W.kitAny K (.type "list") [.ref (He.ga K "Ratio")] = some false)
def q96 (K : PySem.W.Frag) : Bool := decide (PySem.W.kitAny K (.ref (He.ga K "Ratio")) [.ref (He.ga K "Ratio")] = some true)
def q97 (K : PySem.W.Frag) : Bool := decide (PySem.W.kitAny K (.type "NoneType") [.type "bool"] = some false)
def q98 (K : PySem.W.Frag) : Bool := decide (PySem.W.kitAny K (.type "bool") [.type "bool"] = some true)
def q99 (K : PySem.W.Frag) : Bool := decide (PySem.W.kitAny K (.type "int") [.type "bool"] = some false)
def q100 (K : PySem.W.Frag) : Bool := decide (PySem.W.kitAny K (.type "str") [.type "bool"] = some false)
def q101 (K : PySem.W.Frag) : Bool := decide (PySem.W.kitAny K (.type "tuple") [.type "bool"] = some false)
def q102 (K : PySem.W.Frag) : Bool := decide (PySem.W.kitAny K (.type "list") [.type "bool"] = some false)
def q103 (K : PySem.W.Frag) : Bool := decide (PySem.W.kitAny K (.type "NoneType") [.type "int"] = some false)
def q104 (K : PySem.W.Frag) : Bool := decide (PySem.W.kitAny K (.type "bool") [.type "int"] = some true)
def q105 (K : PySem.W.Frag) : Bool := decide (PySem.W.kitAny K (.type "int") [.type "int"] = some true)
def q106 (K : PySem.W.Frag) : Bool := decide (PySem.W.kitAny K (.type "str") [.type "int"] = some false)
def q107 (K : PySem.W.Frag) : Bool := decide (PySem.W.kitAny K (.type "tuple") [.type "int"] = some false)
def q108 (K : PySem.W.Frag) : Bool := decide (PySem.W.kitAny K (.type "list") [.type "int"] = some false)
def q109 (K : PySem.W.Frag) : Bool := decide (PySem.W.kitAny K (.type "NoneType") [.type "list"] = some false)
def q110 (K : PySem.W.Frag) : Bool := decide (PySem.W.kitAny K (.type "bool") [.type "list"] = some false)
def q111 (K : PySem.W.Frag) : Bool := decide (PySem.W.kitAny K (.type "int") [.type "list"] = some false)
def q112 (K : PySem.W.Frag) : Bool := decide (PySem.W.kitAny K (.type "str") [.type "list"] = some false)
def q113 (K : PySem.W.Frag) : Bool := decide (PySem.W.kitAny K (.type "tuple") [.type "list"] = some false)
def q114 (K : PySem.W.Frag) : Bool := decide (PySem.W.kitAny K (.type "list") [.type "list"] = some true)
def q115 (K : PySem.W.Frag) : Bool := decide (PySem.W.kitAny K (.type "NoneType") [.type "list", .type "tuple"] = some false)
def q116 (K : PySem.W.Frag) : Bool := decide (PySem.W.kitAny K (.type "bool") [.type "list", .type "tuple"] = some false)
def q117 (K : PySem.W.Frag) : Bool := decide (PySem.W.kitAny K (.type "int") [.type "list", .type "tuple"] = some false)
def q118 (K : PySem.W.Frag) : Bool := decide (PySem.W.kitAny K (.type "str") [.type "list", .type "tuple"] = some false)
def q119 (K : PySem.W.Frag) : Bool := decide (PySem.W.kitAny K (.type "tuple") [.type "list", .type "tuple"] = some true)
def q120 (K : PySem.W.Frag) : Bool := decide (PySem.W.kitAny K (.type "list") [.type "list", .type "tuple"] = some true)
def q121 (K : PySem.W.Frag) : Bool := decide (PySem.W.kitAny K (.type "NoneType") [.type "str"] = some false)
def q122 (K : PySem.W.Frag) : Bool := decide (PySem.W.kitAny K (.type "bool") [.type "str"] = some false)
def q123 (K : PySem.W.Frag) : Bool := decide (PySem.W.kitAny K (.type "int") [.type "str"] = some false)
def q124 (K : PySem.W.Frag) : Bool := decide (PySem.W.kitAny K (.type "str") [.type "str"] = some true)
def q125 (K : PySem.W.Frag) : Bool := decide (PySem.W.kitAny K (.type "tuple") [.type "str"] = some false)
def q126 (K : PySem.W.Frag) : Bool := decide (PySem.W.kitAny K (.type "list") [.type "str"] = some false)
def q127 (K : PySem.W.Frag) : Bool := decide (PySem.W.kitAny K (.type "NoneType") [.type "tuple"] = some false)
def q128 (K : PySem.W.Frag) : Bool := decide (PySem.W.kitAny K (.type "bool") [.type "tuple"] = some false)
def q129 (K : PySem.W.Frag) : Bool := decide (PySem.W.kitAny K (.type "int") [.type "tuple"] = some false)
def q130 (K : PySem.W.Frag) : Bool := decide (PySem.W.kitAny K (.type "str") [.type "tuple"] = some false)
def q131 (K : PySem.W.Frag) : Bool := decide (PySem.W.kitAny K (.type "tuple") [.type "tuple"] = some true)
def q132 (K : PySem.W.Frag) : Bool := decide (PySem.W.kitAny K (.type "list") [.type "tuple"] = some false)
def q133 (K : PySem.W.Frag) : Bool := decide ((He.ga K "Arc") ≠ (He.ga K "Ratio"))
def fs0 : List (PySem.W.Frag → Bool) := [q0, q1, q2, q3, q4, q5, q6, q7, q8, q9, q10, q11, q12, q13, q14, q15, q16, q17, q18, q19, q20, q21, q22, q23, q24, q25, q26, q27, q28, q29]
def fs1 : List (PySem.W.Frag → Bool) := [q30, q31, q32, q33, q34, q35, q36, q37, q38, q39, q40, q41, q42, q43, q44, q45, q46, q47, q48, q49, q50, q51, q52, q53, q54, q55, q56, q57, q58, q59]
def fs2 : List (PySem.W.Frag → Bool) := [q60, q61, q62, q63, q64, q65, q66, q67, q68, q69, q70, q71, q72, q73, q74, q75, q76, q77, q78, q79, q80, q81, q82, q83, q84, q85, q86, q87, q88, q89]
def fs3 : List (PySem.W.Frag → Bool) := [q90, q91, q92, q93, q94, q95, q96, q97, q98, q99, q100, q101, q102, q103, q104, q105, q106, q107, q108, q109, q110, q111, q112, q113, q114, q115, q116, q117, q118, q119]
def fs4 : List (PySem.W.Frag → Bool) := [q120, q121, q122, q123, q124, q125, q126, q127, q128, q129, q130, q131, q132, q133]
def fs : List (PySem.W.Frag → Bool) := fs0 ++ (fs1 ++ (fs2 ++ (fs3 ++ (fs4))))
def ds0 : List DefK := [dk0, dk1, dk2, dk3, dk4, dk5, dk6, dk7, dk8, dk9, dk10, dk11, dk12, dk13, dk14, dk15, dk16, dk17, dk18, dk19, dk20, dk21, dk22, dk23, dk24, dk25]
def ds : List DefK := ds0
def loose0 : List Str := ["_wall", "CycleError", "InvalidRatio", "InvalidArc", "is_whole", "LONGEST_TEXT", "FIGURES", "common_divisor", "whole_in", "Ratio", "is_ratio", "is_between", "lesser", "whole_cycle", "Arc", "cover_from", "fewest_cover", "_law_begin", "_law_take", "_law_like", "_law_is_in", "_law_choices"]
def loose : List Str := loose0
abbrev R0 : PySem.W.OpenRow := PySem.W.OpenLaw.row PySem.Challenge.rw_bothgreen_k12_whole_fewest_covers
abbrev qv : Program := PySem.W.view R0.prog [27]
def ob (s : PySem.W.SharedT) : AlK := obsKG 5 fs ds (HandSHeadRun.getT s)
theorem ob_eq (s : PySem.W.SharedT) : ob s = (hookK 5 fs ds).obs s.abs := obsKG_eq (HandSHeadRun.getT_eq s)
theorem run (w : World) : HandSHeadRun.RunEq R0 qv (hookK 5 fs ds) ob 40000 loose w := by
  intro os
  kernel_rfl
end W

/-! A layer of pure values over HandS: what a piece of code computes is a function upon data; the abstract heap is out of sight. -/
namespace DL
open PySem PySem.Spec PyProof.Rows L2
/-- a lambda's text; ps: its parameters, dds: their defaults (numbers), free: the names that it takes from around -/
structure LamT where
  qual : Str
  params : Arguments
  body : Expr
  scope : Scope
  ps : List Str
  dds : List Int
  free : List Str
/-- the lambdas of a text, by number; the tables of code objects that their making writes (with the name that the code objects bear) -/
class LamTab where
  tab : Nat → LamT
  tbls : PySem.W.Frag → List (Addr × Str)
variable [LamTab]
/-- just this object stands at b -/
def pinO (b : Addr) (o : Obj) : HO := .ext fun h => h.get? b = some o
/-- an exception stands at a: its class, its fields -/
def XobAt (F : Hp) (C a : Addr) (vs : List (Str × V)) : Prop := ∃ (oe : Obj) (dx : Addr), F a = some (pinO a oe) ∧ oe.cls = .ref C ∧ oe.dict = some dx ∧ (∃ w, oe.data = .fields w) ∧ F dx = some (.xd vs)
/-- a lambda's object: its text, its cells g, its default values -/
def LamO (t : LamT) (g : List (Str × Addr)) (dV : Value) (c : Addr) (o : Obj) : Prop := ∃ (pm ctv : Value), o = { cls := .type "function", data := .func { name := "<lambda>", qualname := t.qual, params := t.params, body := .expr t.body, scope := t.scope, globals := mainGlobals, closure := g, defaults := dV, kwdefaults := .none, doc := .none, pyModule := pm, annotations := none, code := .ref c, closureTuple := ctv, builtins := builtinsNs } }
def LamD (F : Hp) (t : LamT) (dV : Value) : Prop := (t.dds = [] ∧ dV = .none) ∨ ∃ (T : Addr) (us : List Value), dV = .ref T ∧ F T = some (pinO T { cls := .type "tuple", data := .seq us.toArray }) ∧ Vals (t.dds.map V.int) us
/-- a lambda's object stands at a -/
def LamAt (F : Hp) (t : LamT) (g : List (Str × Addr)) (a : Addr) : Prop := ∃ (o : Obj) (dV : Value) (c : Addr), F a = some (pinO a o) ∧ LamO t g dV c o ∧ LamD F t dV ∧ F c = some (LamX.CodeO c t.qual) ∧ (∀ y z c, g.lookup y = some c → g.lookup z = some c → y = z) ∧ (∀ y ∈ t.scope.names, y.2 = .free → ∃ c, g.lookup y.1 = some c) ∧ ∀ y c, g.lookup y = some c → y ∈ t.free
/-- the cells g bear vs -/
def CelAt (F : Hp) (names : List Str) (g : List (Str × Addr)) (vs : List V) : Prop := ∀ (i : Nat) (y : Str) (v : V), names[i]? = some y → vs[i]? = some v → ∃ (c : Addr) (oc : Obj) (u : Value), g.lookup y = some c ∧ F c = some (pinO c oc) ∧ oc.data = .cell (some u) ∧ RelV v u

/-- a class: where it stands, its attributes' names in order -/
structure Kl where
  a : Addr
  ns : List Str
  deriving DecidableEq
/-- data: what a value means. loc n: the n-th mutable object of the store; val: any other value by itself; xob: an exception (as a value); lam: a lambda of this frame, g its cells; clo: a lambda handed on, with the values of its free names -/
inductive D where
  | non | bl (b : Bool) | int (i : Int) | str (x : Str)
  | tup (ds : List D) | lst (ds : List D)
  | obj (c : Kl) (ds : List D)
  | loc (n : Nat)
  | val (v : V)
  | xob (c : Kl) (ds : List D)
  | lam (k : Nat) (g : List (Str × Addr))
  | clo (k : Nat) (ds : List D)

mutual
inductive Rep (K : PySem.W.Frag) (ι : List Addr) (F : Hp) : D → V → Prop
  | non : Rep K ι F .non .non
  | bl (b : Bool) : Rep K ι F (.bl b) (.bl b)
  | int (i : Int) : Rep K ι F (.int i) (.int i)
  | str (x : Str) : Rep K ι F (.str x) (.str x)
  | tup {ds : List D} {a : Addr} {xs : List V} : SqT K F a xs → Reps K ι F ds xs → Rep K ι F (.tup ds) (.ref a)
  | lst {ds : List D} {a : Addr} {xs : List V} : SqL K F a xs → Reps K ι F ds xs → Rep K ι F (.lst ds) (.ref a)
  | obj {c : Kl} {ds : List D} {a dx : Addr} {vs : List (Str × V)} : F a = some (.ins c.a dx vs) → vs.map (·.1) = c.ns → Reps K ι F ds (vs.map (·.2)) → Rep K ι F (.obj c ds) (.ref a)
  | loc {n : Nat} {a : Addr} : ι[n]? = some a → Rep K ι F (.loc n) (.ref a)
  | val (v : V) : Rep K ι F (.val v) v
  | xob {c : Kl} {ds : List D} {a : Addr} {vs : List (Str × V)} : XobAt F c.a a vs → vs.map (·.1) = c.ns → Reps K ι F ds (vs.map (·.2)) → Rep K ι F (.xob c ds) (.ref a)
  | lam {k : Nat} {g : List (Str × Addr)} {a : Addr} : LamAt F (LamTab.tab k) g a → Rep K ι F (.lam k g) (.ref a)
  | clo {k : Nat} {ds : List D} {g : List (Str × Addr)} {a : Addr} {vs : List V} : LamAt F (LamTab.tab k) g a → CelAt F (LamTab.tab k).free g vs → Reps K ι F ds vs → Rep K ι F (.clo k ds) (.ref a)
inductive Reps (K : PySem.W.Frag) (ι : List Addr) (F : Hp) : List D → List V → Prop
  | nil : Reps K ι F [] []
  | cons {d : D} {v : V} {ds : List D} {vs : List V} : Rep K ι F d v → Reps K ι F ds vs → Reps K ι F (d :: ds) (v :: vs)
inductive RepF (K : PySem.W.Frag) (ι : List Addr) (F : Hp) : List (Str × D) → List (Str × V) → Prop
  | nil : RepF K ι F [] []
  | cons {f : Str} {d : D} {v : V} {fs : List (Str × D)} {vs : List (Str × V)} : Rep K ι F d v → RepF K ι F fs vs → RepF K ι F ((f, d) :: fs) ((f, v) :: vs)
end

/-- all that stood stands -/
def Ext (H H' : Hp) : Prop := ∀ a o, H a = some o → H' a = some o
theorem Ext.refl (H : Hp) : Ext H H := fun _ _ h => h
theorem Ext.trans {H H1 H2 : Hp} (a : Ext H H1) (b : Ext H1 H2) : Ext H H2 := fun c o h => b c o (a c o h)
theorem SqL.ext' {K : PySem.W.Frag} {H H' : Hp} {a : Addr} {xs : List V} (h : SqL K H a xs) (e : Ext H H') : SqL K H' a xs := by
  rcases h with (h | ⟨o, h⟩) | h
  · exact .inl (.inl (e _ _ h))
  · exact .inl (.inr ⟨o, e _ _ h⟩)
  · exact .inr h
theorem SqT.ext' {K : PySem.W.Frag} {H H' : Hp} {a : Addr} {xs : List V} (h : SqT K H a xs) (e : Ext H H') : SqT K H' a xs := by
  rcases h with (h | ⟨o, h⟩) | h
  · exact .inl (.inl (e _ _ h))
  · exact .inl (.inr ⟨o, e _ _ h⟩)
  · exact .inr h

theorem XobAt.ext {F F' : Hp} {C a : Addr} {vs : List (Str × V)} (h : XobAt F C a vs) (e : Ext F F') : XobAt F' C a vs := by
  obtain ⟨oe, dx, h1, h2, h3, h4, h5⟩ := h
  exact ⟨oe, dx, e _ _ h1, h2, h3, h4, e _ _ h5⟩
theorem LamAt.ext {F F' : Hp} {t : LamT} {g : List (Str × Addr)} {a : Addr} (h : LamAt F t g a) (e : Ext F F') : LamAt F' t g a := by
  obtain ⟨o, dV, c, h1, h2, h3, h4, h5⟩ := h
  refine ⟨o, dV, c, e _ _ h1, h2, ?_, e _ _ h4, h5⟩
  rcases h3 with h3 | ⟨T, us, k1, k2, k3⟩
  · exact .inl h3
  · exact .inr ⟨T, us, k1, e _ _ k2, k3⟩
theorem CelAt.ext {F F' : Hp} {names : List Str} {g : List (Str × Addr)} {vs : List V} (h : CelAt F names g vs) (e : Ext F F') : CelAt F' names g vs := fun i y v h1 h2 =>
  let ⟨c, oc, u, k1, k2, k3⟩ := h i y v h1 h2
  ⟨c, oc, u, k1, e _ _ k2, k3⟩
section
variable {K : PySem.W.Frag} {ι ι' : List Addr} {F F' : Hp}
theorem pre_get {ι ι' : List Addr} (hp : ι <+: ι') {n : Nat} {a : Addr} (h : ι[n]? = some a) : ι'[n]? = some a := by
  obtain ⟨t, rfl⟩ := hp
  rw [List.getElem?_append_left (List.getElem?_eq_some_iff.mp h).1]
  exact h
mutual
theorem Rep.mono (hp : ι <+: ι') (e : Ext F F') : ∀ {d : D} {v : V}, Rep K ι F d v → Rep K ι' F' d v
  | _, _, .non => .non
  | _, _, .bl b => .bl b
  | _, _, .int i => .int i
  | _, _, .str x => .str x
  | _, _, .tup h r => .tup (SqT.ext' h e) (Reps.mono hp e r)
  | _, _, .lst h r => .lst (SqL.ext' h e) (Reps.mono hp e r)
  | _, _, .obj h n r => .obj (e _ _ h) n (Reps.mono hp e r)
  | _, _, .loc h => .loc (pre_get hp h)
  | _, _, .val v => .val v
  | _, _, .xob h n r => .xob (h.ext e) n (Reps.mono hp e r)
  | _, _, .lam h => .lam (h.ext e)
  | _, _, .clo h h2 r => .clo (h.ext e) (h2.ext e) (Reps.mono hp e r)
theorem Reps.mono (hp : ι <+: ι') (e : Ext F F') : ∀ {ds : List D} {vs : List V}, Reps K ι F ds vs → Reps K ι' F' ds vs
  | _, _, .nil => .nil
  | _, _, .cons h r => .cons (Rep.mono hp e h) (Reps.mono hp e r)
theorem RepF.mono (hp : ι <+: ι') (e : Ext F F') : ∀ {ds : List (Str × D)} {vs : List (Str × V)}, RepF K ι F ds vs → RepF K ι' F' ds vs
  | _, _, .nil => .nil
  | _, _, .cons h r => .cons (Rep.mono hp e h) (RepF.mono hp e r)
end
theorem Reps.len : ∀ {ds : List D} {vs : List V}, Reps K ι F ds vs → ds.length = vs.length
  | _, _, .nil => rfl
  | _, _, .cons _ r => congrArg Nat.succ (Reps.len r)
theorem Reps.get : ∀ {ds : List D} {vs : List V} {i : Nat} {d : D}, Reps K ι F ds vs → ds[i]? = some d → ∃ v, vs[i]? = some v ∧ Rep K ι F d v
  | _, _, _, _, .nil, e => by simp at e
  | _, _, 0, _, .cons h r, e => by simp at e; subst e; exact ⟨_, rfl, h⟩
  | _, _, i + 1, d, .cons h r, e => by
    obtain ⟨v, h1, h2⟩ := Reps.get (i := i) (d := d) r (by simpa using e)
    exact ⟨v, by simpa using h1, h2⟩
theorem Reps.getV : ∀ {ds : List D} {vs : List V} {i : Nat} {v : V}, Reps K ι F ds vs → vs[i]? = some v → ∃ d, ds[i]? = some d ∧ Rep K ι F d v
  | _, _, _, _, .nil, e => by simp at e
  | _, _, 0, _, .cons h r, e => by simp at e; subst e; exact ⟨_, rfl, h⟩
  | _, _, i + 1, d, .cons h r, e => by
    obtain ⟨v, h1, h2⟩ := Reps.getV (i := i) (v := d) r (by simpa using e)
    exact ⟨v, by simpa using h1, h2⟩
theorem Reps.append : ∀ {ds es : List D} {vs us : List V}, Reps K ι F ds vs → Reps K ι F es us → Reps K ι F (ds ++ es) (vs ++ us)
  | _, _, _, _, .nil, s => s
  | _, _, _, _, .cons h r, s => .cons h (Reps.append r s)
theorem Reps.take : ∀ {ds : List D} {vs : List V} (n : Nat), Reps K ι F ds vs → Reps K ι F (ds.take n) (vs.take n)
  | _, _, 0, _ => .nil
  | _, _, _ + 1, .nil => .nil
  | _, _, n + 1, .cons h r => .cons h (Reps.take n r)
theorem Reps.drop : ∀ {ds : List D} {vs : List V} (n : Nat), Reps K ι F ds vs → Reps K ι F (ds.drop n) (vs.drop n)
  | _, _, 0, r => r
  | _, _, _ + 1, .nil => .nil
  | _, _, n + 1, .cons _ r => Reps.drop n r
theorem Reps.set {d : D} {v : V} (h : Rep K ι F d v) : ∀ {ds : List D} {vs : List V} (i : Nat), Reps K ι F ds vs → Reps K ι F (ds.set i d) (vs.set i v)
  | _, _, _, .nil => .nil
  | _, _, 0, .cons _ r => .cons h r
  | _, _, i + 1, .cons q r => .cons q (Reps.set h i r)
theorem Reps.eraseIdx : ∀ {ds : List D} {vs : List V} (i : Nat), Reps K ι F ds vs → Reps K ι F (ds.eraseIdx i) (vs.eraseIdx i)
  | _, _, _, .nil => .nil
  | _, _, 0, .cons _ r => r
  | _, _, i + 1, .cons q r => .cons q (Reps.eraseIdx i r)
theorem RepF.get : ∀ {fs : List (Str × D)} {vs : List (Str × V)} {f : Str} {d : D}, RepF K ι F fs vs → fs.lookup f = some d → ∃ v, vs.lookup f = some v ∧ Rep K ι F d v
  | _, _, _, _, .nil, e => by simp at e
  | _, _, f, d, .cons (f := g) h r, e => by
    rw [List.lookup_cons] at e ⊢
    cases hb : f == g with
    | true => rw [hb] at e; cases e; exact ⟨_, rfl, h⟩
    | false => rw [hb] at e; exact RepF.get r e
theorem RepF.none : ∀ {fs : List (Str × D)} {vs : List (Str × V)} {f : Str}, RepF K ι F fs vs → fs.lookup f = .none → vs.lookup f = .none
  | _, _, _, .nil, e => rfl
  | _, _, f, .cons (f := g) h r, e => by
    rw [List.lookup_cons] at e ⊢
    cases hb : f == g with
    | true => rw [hb] at e; cases e
    | false => rw [hb] at e; exact RepF.none r e
theorem RepF.len : ∀ {fs : List (Str × D)} {vs : List (Str × V)}, RepF K ι F fs vs → fs.length = vs.length
  | _, _, .nil => rfl
  | _, _, .cons _ r => congrArg Nat.succ (RepF.len r)
/-- the twin of putF -/
def putD (f : Str) (d : D) : List (Str × D) → List (Str × D)
  | [] => [(f, d)]
  | (g, e) :: r => if g = f then (g, d) :: r else (g, e) :: putD f d r
end
end DL

namespace DL
open PySem PySem.Spec PyProof.Rows L2
variable [LamTab]

/-- a mutable object of the store -/
inductive Mo where
  | lst (ds : List D)
  | ins (C : Addr) (fs : List (Str × D))
  | exo (C : Addr) (d : Option Nat)
  | exd (fs : List (Str × D))
  | dik (kvs : List (Key × D))
  | dit (kvs : List (List Key × D))
abbrev Mu := List Mo
abbrev En := List (Option D)
/-- a state of the world: the store's addresses, what never changes from now on, all that is tracked -/
structure Wd where
  i : List Addr
  F : Hp
  H : Hp
def MoOk (K : PySem.W.Frag) (S : Wd) (a : Addr) : Mo → Prop
  | .lst ds => ∃ xs, S.H a = some (.lst xs) ∧ Reps K S.i S.F ds xs
  | .ins C fs => ∃ dx vs, S.H a = some (.ins C dx vs) ∧ RepF K S.i S.F fs vs
  | .exo C none => S.H a = some (exo a C none)
  | .exo C (some k) => ∃ dx, S.i[k]? = some dx ∧ S.H a = some (exo a C (some dx))
  | .exd fs => ∃ vs, S.H a = some (exd a vs) ∧ RepF K S.i S.F fs vs
  | .dik kvs => ∃ vs : List (Key × V), S.H a = some (.dK vs) ∧ kvs.map (·.1) = vs.map (·.1) ∧ Reps K S.i S.F (kvs.map (·.2)) (vs.map (·.2))
  | .dit kvs => ∃ vs : List (List Key × V), S.H a = some (.dT vs) ∧ kvs.map (·.1) = vs.map (·.1) ∧ Reps K S.i S.F (kvs.map (·.2)) (vs.map (·.2))
/-- the tables of code objects, each kept apart -/
def TbOk (K : PySem.W.Frag) (S : Wd) : Prop := ∀ p ∈ LamTab.tbls K, ∃ ps : Array Value, S.H p.1 = some (.tbl ps) ∧ S.F p.1 = none ∧ p.1 ∉ S.i ∧ TriplesOk ps.toList ∧ ∀ (pos : Pos) (cv : Value), codeAmong pos ps.toList = some cv → ∃ c, cv = .ref c ∧ S.F c = some (LamX.CodeO c p.2)
structure Sta (K : PySem.W.Frag) (S : Wd) (m : Mu) : Prop where
  nd : S.i.Nodup
  len : S.i.length = m.length
  sub : Ext S.F S.H
  dis : ∀ a ∈ S.i, S.F a = none
  tr : ∀ a ∈ S.i, ∃ o, S.H a = some o
  ok : ∀ (n : Nat) a o, S.i[n]? = some a → m[n]? = some o → MoOk K S a o
  tb : TbOk K S
structure Stp (S T : Wd) : Prop where
  pre : S.i <+: T.i
  ext : Ext S.F T.F
  frame : ∀ a o, (∀ ps, o ≠ .tbl ps) → S.H a = some o → S.F a = none → a ∉ S.i → T.H a = some o ∧ T.F a = none ∧ a ∉ T.i
  old : ∀ a, T.H a = none → S.H a = none
theorem upd_none {H : Hp} {p a : Addr} {o : HO} (h : upd H p o a = none) : H a = none := by
  by_cases e : a = p
  · subst e; rw [upd_same] at h; cases h
  · rw [upd_ne e] at h; exact h
theorem Stp.refl (S : Wd) : Stp S S := ⟨List.prefix_refl _, Ext.refl _, fun _ _ _ h1 h2 h3 => ⟨h1, h2, h3⟩, fun _ h => h⟩
theorem Stp.trans {S T U : Wd} (a : Stp S T) (b : Stp T U) : Stp S U := ⟨a.pre.trans b.pre, a.ext.trans b.ext, fun c o hn h1 h2 h3 =>
  let ⟨k1, k2, k3⟩ := a.frame c o hn h1 h2 h3
  b.frame c o hn k1 k2 k3, fun c h => a.old c (b.old c h)⟩
theorem Rep.stp {K : PySem.W.Frag} {S T : Wd} (s : Stp S T) {d : D} {v : V} (r : Rep K S.i S.F d v) : Rep K T.i T.F d v := r.mono s.pre s.ext
theorem Reps.stp {K : PySem.W.Frag} {S T : Wd} (s : Stp S T) {d : List D} {v : List V} (r : Reps K S.i S.F d v) : Reps K T.i T.F d v := r.mono s.pre s.ext
theorem RepF.stp {K : PySem.W.Frag} {S T : Wd} (s : Stp S T) {d : List (Str × D)} {v : List (Str × V)} (r : RepF K S.i S.F d v) : RepF K T.i T.F d v := r.mono s.pre s.ext
theorem Sta.fresh {K : PySem.W.Frag} {S : Wd} {m : Mu} (sa : Sta K S m) {p : Addr} (h : S.H p = none) : S.F p = none ∧ p ∉ S.i := by
  constructor
  · cases q : S.F p with
    | none => rfl
    | some o => rw [sa.sub p o q] at h; cases h
  · intro hp
    obtain ⟨o, e⟩ := sa.tr p hp
    rw [h] at e; cases e
/-- a new object that stays as it is -/
def Wd.new (S : Wd) (p : Addr) (o : HO) : Wd := ⟨S.i, upd S.F p o, upd S.H p o⟩
theorem Ext.updNew {H : Hp} {p : Addr} {o : HO} (h : H p = none) : Ext H (upd H p o) := fun a u e => by rw [upd_ne (ne_of_none e h)]; exact e
theorem Stp.new {K : PySem.W.Frag} {S : Wd} {m : Mu} (sa : Sta K S m) {p : Addr} {o : HO} (h : S.H p = none) : Stp S (S.new p o) := by
  refine ⟨List.prefix_refl _, Ext.updNew (sa.fresh h).1, fun a u _ h1 h2 h3 => ?_, fun a z => upd_none z⟩
  have ne : a ≠ p := ne_of_none h1 h
  exact ⟨by show upd S.H p o a = _; rw [upd_ne ne]; exact h1, by show upd S.F p o a = _; rw [upd_ne ne]; exact h2, h3⟩
theorem MoOk.stp {K : PySem.W.Frag} {S T : Wd} (s : Stp S T) {a : Addr} {o : Mo} (h : MoOk K S a o) (e : T.H a = S.H a) : MoOk K T a o := by
  cases o with
  | lst ds => obtain ⟨xs, h1, h2⟩ := h; exact ⟨xs, by rw [e]; exact h1, h2.stp s⟩
  | ins C fs => obtain ⟨dx, vs, h1, h2⟩ := h; exact ⟨dx, vs, by rw [e]; exact h1, h2.stp s⟩
  | exo C d =>
    cases d with
    | none => exact (show T.H a = _ from e.trans h)
    | some k => obtain ⟨dx, h1, h2⟩ := h; exact ⟨dx, pre_get s.pre h1, by rw [e]; exact h2⟩
  | exd fs => obtain ⟨vs, h1, h2⟩ := h; exact ⟨vs, by rw [e]; exact h1, h2.stp s⟩
  | dik kvs => obtain ⟨vs, h1, h0, h2⟩ := h; exact ⟨vs, by rw [e]; exact h1, h0, h2.stp s⟩
  | dit kvs => obtain ⟨vs, h1, h0, h2⟩ := h; exact ⟨vs, by rw [e]; exact h1, h0, h2.stp s⟩
theorem Sta.new {K : PySem.W.Frag} {S : Wd} {m : Mu} (sa : Sta K S m) {p : Addr} {o : HO} (h : S.H p = none) : Sta K (S.new p o) m := by
  have st := Stp.new sa (o := o) h
  have f := sa.fresh h
  refine ⟨sa.nd, sa.len, fun a u e => ?_, fun a ha => ?_, fun a ha => ?_, fun n a q h1 h2 => ?_, fun q hq => ?tb⟩
  case tb =>
    obtain ⟨ps, t1, t2, t3, t4, t5⟩ := sa.tb q hq
    have ne : q.1 ≠ p := ne_of_none t1 h
    exact ⟨ps, by show upd S.H p o q.1 = _; rw [upd_ne ne]; exact t1, by show upd S.F p o q.1 = _; rw [upd_ne ne]; exact t2, t3, t4, fun pos cv hc => let ⟨c, c1, c2⟩ := t5 pos cv hc; ⟨c, c1, st.ext _ _ c2⟩⟩
  · show upd S.H p o a = some u
    have e : upd S.F p o a = some u := e
    by_cases hp : a = p
    · subst hp; rw [upd_same] at e ⊢; exact e
    · rw [upd_ne hp] at e ⊢; exact sa.sub a u e
  · have ne : a ≠ p := fun z => f.2 (z ▸ ha)
    show upd S.F p o a = none
    rw [upd_ne ne]; exact sa.dis a ha
  · have ne : a ≠ p := fun z => f.2 (z ▸ ha)
    obtain ⟨u, e⟩ := sa.tr a ha
    exact ⟨u, by show upd S.H p o a = _; rw [upd_ne ne]; exact e⟩
  · have ne : a ≠ p := fun z => f.2 (z ▸ List.mem_of_getElem? h1)
    exact (sa.ok n a q h1 h2).stp st (upd_ne ne)
/-- a new object of the store -/
def Wd.tok (S : Wd) (p : Addr) (o : HO) : Wd := ⟨S.i ++ [p], S.F, upd S.H p o⟩
theorem Stp.tok {K : PySem.W.Frag} {S : Wd} {m : Mu} (sa : Sta K S m) {p : Addr} {o : HO} (h : S.H p = none) : Stp S (S.tok p o) := by
  refine ⟨List.prefix_append _ _, Ext.refl _, fun a u _ h1 h2 h3 => ?_, fun a z => upd_none z⟩
  have ne : a ≠ p := ne_of_none h1 h
  exact ⟨by show upd S.H p o a = _; rw [upd_ne ne]; exact h1, h2, by
    intro z
    rcases List.mem_append.mp z with z | z
    · exact h3 z
    · exact ne (List.mem_singleton.mp z)⟩
theorem Sta.tok {K : PySem.W.Frag} {S : Wd} {m : Mu} (sa : Sta K S m) {p : Addr} {o : HO} (h : S.H p = none) {q : Mo} (hq : MoOk K (S.tok p o) p q) : Sta K (S.tok p o) (m ++ [q]) := by
  have st := Stp.tok sa (o := o) h
  have f := sa.fresh h
  refine ⟨?_, by show (S.i ++ [p]).length = _; simp [sa.len], fun a u e => ?_, fun a ha => ?_, fun a ha => ?_, fun n a u h1 h2 => ?_, fun q hq => ?tb⟩
  case tb =>
    obtain ⟨ps, t1, t2, t3, t4, t5⟩ := sa.tb q hq
    have ne : q.1 ≠ p := ne_of_none t1 h
    exact ⟨ps, by show upd S.H p o q.1 = _; rw [upd_ne ne]; exact t1, t2, by show q.1 ∉ S.i ++ [p]; simp [t3, ne], t4, t5⟩
  · show (S.i ++ [p]).Nodup
    refine List.nodup_append.mpr ⟨sa.nd, by simp, fun a ha b hb => ?_⟩
    have : b = p := List.mem_singleton.mp hb
    subst this
    exact fun z => f.2 (z ▸ ha)
  · have ne : a ≠ p := fun z => by
      have e : S.F a = some u := e
      rw [z, f.1] at e; cases e
    show upd S.H p o a = some u
    rw [upd_ne ne]; exact sa.sub a u e
  · rcases List.mem_append.mp (show a ∈ S.i ++ [p] from ha) with z | z
    · exact sa.dis a z
    · have : a = p := List.mem_singleton.mp z
      subst this; exact f.1
  · show ∃ u, upd S.H p o a = some u
    by_cases hp : a = p
    · subst hp; exact ⟨o, upd_same⟩
    · rcases List.mem_append.mp (show a ∈ S.i ++ [p] from ha) with z | z
      · rw [upd_ne hp]; exact sa.tr a z
      · exact absurd (List.mem_singleton.mp z) hp
  · have h1 : (S.i ++ [p])[n]? = some a := h1
    by_cases hn : n < S.i.length
    · rw [List.getElem?_append_left hn] at h1
      rw [List.getElem?_append_left (by rw [← sa.len]; exact hn)] at h2
      have ne : a ≠ p := fun z => f.2 (z ▸ List.mem_of_getElem? h1)
      exact (sa.ok n a u h1 h2).stp st (upd_ne ne)
    · have hn' : n = S.i.length := by
        have := (List.getElem?_eq_some_iff.mp h1).1
        simp at this; omega
      subst hn'
      rw [List.getElem?_append_right (Nat.le_refl _), Nat.sub_self] at h1
      rw [sa.len, List.getElem?_append_right (Nat.le_refl _), Nat.sub_self] at h2
      simp at h1 h2
      subst h1; subst h2
      exact hq
/-- an object of the store, or a hidden one, is written -/
def Wd.put (S : Wd) (p : Addr) (o : HO) : Wd := ⟨S.i, S.F, upd S.H p o⟩
theorem Sta.put {K : PySem.W.Frag} {S : Wd} {m : Mu} (sa : Sta K S m) {p : Addr} {o : HO} {n : Nat} (h : S.i[n]? = some p) {q : Mo} (hq : MoOk K (S.put p o) p q) : Stp S (S.put p o) ∧ Sta K (S.put p o) (m.set n q) := by
  have hp := List.mem_of_getElem? h
  have st : Stp S (S.put p o) := ⟨List.prefix_refl _, Ext.refl _, fun a u _ h1 h2 h3 => ⟨by
    have ne : a ≠ p := fun z => h3 (z ▸ hp)
    show upd S.H p o a = _; rw [upd_ne ne]; exact h1, h2, h3⟩, fun a z => upd_none z⟩
  refine ⟨st, sa.nd, by show S.i.length = _; simp [sa.len], fun a u e => ?_, sa.dis, fun a ha => ?_, fun k a u h1 h2 => ?_, fun q hq => ?tb⟩
  case tb =>
    obtain ⟨ps, t1, t2, t3, t4, t5⟩ := sa.tb q hq
    have ne : q.1 ≠ p := fun z => t3 (z ▸ hp)
    exact ⟨ps, by show upd S.H p o q.1 = _; rw [upd_ne ne]; exact t1, t2, t3, t4, t5⟩
  · have ne : a ≠ p := fun z => by
      have e : S.F a = some u := e
      rw [z, sa.dis p hp] at e; cases e
    show upd S.H p o a = some u
    rw [upd_ne ne]; exact sa.sub a u e
  · show ∃ u, upd S.H p o a = some u
    by_cases hp : a = p
    · subst hp; exact ⟨o, upd_same⟩
    · rw [upd_ne hp]; exact sa.tr a ha
  · have h1 : S.i[k]? = some a := h1
    by_cases hk : k = n
    · subst hk
      rw [h] at h1; cases h1
      have hl : k < m.length := by rw [← sa.len]; exact (List.getElem?_eq_some_iff.mp h).1
      rw [List.getElem?_set_self hl] at h2; cases h2
      exact hq
    · rw [List.getElem?_set_ne (Ne.symm hk)] at h2
      have ne : a ≠ p := fun z => by
        subst z
        obtain ⟨l1, e1⟩ := List.getElem?_eq_some_iff.mp h1
        obtain ⟨l2, e2⟩ := List.getElem?_eq_some_iff.mp h
        exact hk ((List.getElem_inj sa.nd).mp (e1.trans e2.symm))
      exact (sa.ok k a u h1 h2).stp st (upd_ne ne)
/-- a hidden object is written -/
theorem Sta.hid {K : PySem.W.Frag} {S : Wd} {m : Mu} (sa : Sta K S m) {p : Addr} {o : HO} (h1 : S.F p = none) (h2 : p ∉ S.i) (h3 : ∀ ps, S.H p ≠ some (.tbl ps)) : Sta K (S.put p o) m := by
  refine ⟨sa.nd, sa.len, fun a u e => ?_, sa.dis, fun a ha => ?_, fun k a u e1 e2 => ?_, fun q hq => ?tb⟩
  case tb =>
    obtain ⟨ps, t1, t2, t3, t4, t5⟩ := sa.tb q hq
    have ne : q.1 ≠ p := fun z => h3 ps (z ▸ t1)
    exact ⟨ps, by show upd S.H p o q.1 = _; rw [upd_ne ne]; exact t1, t2, t3, t4, t5⟩
  · have ne : a ≠ p := fun z => by
      have e : S.F a = some u := e
      rw [z, h1] at e; cases e
    show upd S.H p o a = some u
    rw [upd_ne ne]; exact sa.sub a u e
  · have ne : a ≠ p := fun z => h2 (z ▸ ha)
    show ∃ u, upd S.H p o a = some u
    rw [upd_ne ne]; exact sa.tr a ha
  · have ne : a ≠ p := fun z => h2 (z ▸ List.mem_of_getElem? e1)
    have q := sa.ok k a u e1 e2
    cases u with
    | lst ds => obtain ⟨xs, q1, q2⟩ := q; exact ⟨xs, by show upd S.H p o a = _; rw [upd_ne ne]; exact q1, q2⟩
    | ins C fs => obtain ⟨dx, vs, q1, q2⟩ := q; exact ⟨dx, vs, by show upd S.H p o a = _; rw [upd_ne ne]; exact q1, q2⟩
    | exo C d =>
      cases d with
      | none => exact (show upd S.H p o a = _ from (upd_ne ne).trans q)
      | some k => obtain ⟨dx, q1, q2⟩ := q; exact ⟨dx, q1, (show upd S.H p o a = _ from (upd_ne ne).trans q2)⟩
    | exd fs => obtain ⟨vs, q1, q2⟩ := q; exact ⟨vs, by show upd S.H p o a = _; rw [upd_ne ne]; exact q1, q2⟩
    | dik kvs => obtain ⟨vs, q1, q0, q2⟩ := q; exact ⟨vs, by show upd S.H p o a = _; rw [upd_ne ne]; exact q1, q0, q2⟩
    | dit kvs => obtain ⟨vs, q1, q0, q2⟩ := q; exact ⟨vs, by show upd S.H p o a = _; rw [upd_ne ne]; exact q1, q0, q2⟩
/-- a hidden object stays as it is from now on -/
def Wd.keep (S : Wd) (p : Addr) (o : HO) : Wd := ⟨S.i, upd S.F p o, S.H⟩
theorem Sta.keep {K : PySem.W.Frag} {S : Wd} {m : Mu} (sa : Sta K S m) {p : Addr} {o : HO} (h0 : S.H p = some o) (h1 : S.F p = none) (h2 : p ∉ S.i) (h3 : ∀ ps, o ≠ .tbl ps) : Sta K (S.keep p o) m := by
  have ex : Ext S.F (upd S.F p o) := Ext.updNew h1
  refine ⟨sa.nd, sa.len, fun a u e => ?_, fun a ha => ?_, sa.tr, fun k a u e1 e2 => ?_, fun q hq => ?tb⟩
  case tb =>
    obtain ⟨ps, t1, t2, t3, t4, t5⟩ := sa.tb q hq
    have ne : q.1 ≠ p := fun z => h3 ps (Option.some.inj (h0.symm.trans (z ▸ t1)))
    exact ⟨ps, t1, by show upd S.F p o q.1 = _; rw [upd_ne ne]; exact t2, t3, t4, fun pos cv hc => let ⟨c, c1, c2⟩ := t5 pos cv hc; ⟨c, c1, ex _ _ c2⟩⟩
  · have e : upd S.F p o a = some u := e
    by_cases hp : a = p
    · subst hp; rw [upd_same] at e; cases e; exact h0
    · rw [upd_ne hp] at e; exact sa.sub a u e
  · have ne : a ≠ p := fun z => h2 (z ▸ ha)
    show upd S.F p o a = none
    rw [upd_ne ne]; exact sa.dis a ha
  · have q := sa.ok k a u e1 e2
    cases u with
    | lst ds => obtain ⟨xs, q1, q2⟩ := q; exact ⟨xs, q1, q2.mono (List.prefix_refl _) ex⟩
    | ins C fs => obtain ⟨dx, vs, q1, q2⟩ := q; exact ⟨dx, vs, q1, q2.mono (List.prefix_refl _) ex⟩
    | exo C d =>
      cases d with
      | none => exact q
      | some k => exact q
    | exd fs => obtain ⟨vs, q1, q2⟩ := q; exact ⟨vs, q1, q2.mono (List.prefix_refl _) ex⟩
    | dik kvs => obtain ⟨vs, q1, q0, q2⟩ := q; exact ⟨vs, q1, q0, q2.mono (List.prefix_refl _) ex⟩
    | dit kvs => obtain ⟨vs, q1, q0, q2⟩ := q; exact ⟨vs, q1, q0, q2.mono (List.prefix_refl _) ex⟩

/-! ### results -/
inductive Res (α : Type) where
  | stuck
  | ok (a : α) (m : Mu)
  | exc (C : Addr) (fs : List (Str × D)) (m : Mu)
def Res.bind {α β : Type} (r : Res α) (f : α → Mu → Res β) : Res β := match r with
  | .stuck => .stuck
  | .ok a m => f a m
  | .exc C fs m => .exc C fs m
@[simp] theorem Res.bind_ok {α β : Type} (a : α) (m : Mu) (f : α → Mu → Res β) : (Res.ok a m).bind f = f a m := rfl
@[simp] theorem Res.bind_stuck {α β : Type} (f : α → Mu → Res β) : (Res.stuck : Res α).bind f = .stuck := rfl
@[simp] theorem Res.bind_exc {α β : Type} (C : Addr) (fs : List (Str × D)) (m : Mu) (f : α → Mu → Res β) : (Res.exc C fs m : Res α).bind f = .exc C fs m := rfl

section
variable {α β γ δ : Type} {K : PySem.W.Frag} {S T : Wd}
/-- what must hold so that r is the answer -/
def Post (R : Wd → α → β → Prop) (K : PySem.W.Frag) (S : Wd) (r : Res α) (Q : β → Hp → Prop) (W : XK) : Prop := match r with
  | .stuck => False
  | .ok a m => ∀ v T, Stp S T → Sta K T m → R T a v → Q v T.H
  | .exc C fs m => ∀ dd vs T, Stp S T → S.H dd = none → Sta K T m → T.H dd = some (.xd vs) → RepF K T.i T.F fs vs → W (.ref C) (some dd) T.H
variable {R : Wd → α → β → Prop} {R' : Wd → γ → δ → Prop}
theorem Post.step {r : Res α} {Q : β → Hp → Prop} {W : XK} (s : Stp S T) (h : Post R K S r Q W) : Post R K T r Q W := by
  cases r with
  | stuck => exact h
  | ok a m => exact fun v U s1 => h v U (s.trans s1)
  | exc C fs m => exact fun dd vs U s1 hn => h dd vs U (s.trans s1) (s.old dd hn)
theorem Post.imp {r : Res α} {Q Q' : β → Hp → Prop} {W : XK} (h : Post R K S r Q W) (f : ∀ v H, Q v H → Q' v H) : Post R K S r Q' W := by
  cases r with
  | stuck => exact h
  | ok a m => exact fun v U s1 s2 s3 => f _ _ (h v U s1 s2 s3)
  | exc C fs m => exact h
theorem Post.bindI {r : Res α} {f : α → Mu → Res γ} {Q : δ → Hp → Prop} {Q' : β → Hp → Prop} {W : XK} (h : Post R' K S (r.bind f) Q W)
    (g : ∀ a m v T, Stp S T → Sta K T m → R T a v → Post R' K T (f a m) Q W → Q' v T.H) : Post R K S r Q' W := by
  cases r with
  | stuck => exact h
  | ok a m => exact fun v U s1 s2 s3 => g a m v U s1 s2 s3 (Post.step (r := f a m) s1 h)
  | exc C fs m => exact h
/-- the answer is known -/
theorem Post.ok {a : α} {m : Mu} {Q : β → Hp → Prop} {W : XK} {v : β} (h : Post R K S (.ok a m) Q W) (s : Stp S T) (sa : Sta K T m) (r : R T a v) : Q v T.H := h v T s sa r
end
abbrev RD (K : PySem.W.Frag) : Wd → D → V → Prop := fun S d v => Rep K S.i S.F d v
abbrev RL (K : PySem.W.Frag) : Wd → List D → List V → Prop := fun S d v => Reps K S.i S.F d v
abbrev RB : Wd → Bool → Bool → Prop := fun _ a b => a = b
abbrev PostD (K : PySem.W.Frag) (S : Wd) (r : Res D) (Q : VK) (W : XK) : Prop := Post (RD K) K S r Q W
abbrev PostL (K : PySem.W.Frag) (S : Wd) (r : Res (List D)) (Q : List V → Hp → Prop) (W : XK) : Prop := Post (RL K) K S r Q W
abbrev PostB (K : PySem.W.Frag) (S : Wd) (r : Res Bool) (Q : Bool → Hp → Prop) (W : XK) : Prop := Post RB K S r Q W

/-- names and their data -/
def RelE (K : PySem.W.Frag) (S : Wd) (e : En) (σ : L2.St) : Prop := e.length = σ.length ∧ ∀ (i : Nat) d, e[i]? = some (some d) → ∃ v, σ[i]? = some (some v) ∧ Rep K S.i S.F d v
theorem RelE.stp {K : PySem.W.Frag} {S T : Wd} {e : En} {σ : L2.St} (r : RelE K S e σ) (s : Stp S T) : RelE K T e σ := ⟨r.1, fun i d h => let ⟨v, h1, h2⟩ := r.2 i d h; ⟨v, h1, h2.stp s⟩⟩
theorem RelE.set {K : PySem.W.Frag} {S : Wd} {e : En} {σ : L2.St} {d : D} {v : V} (r : RelE K S e σ) (i : Nat) (h : Rep K S.i S.F d v) : RelE K S (e.set i (some d)) (σ.set i (some v)) := by
  refine ⟨by simp [r.1], fun j d' e1 => ?_⟩
  by_cases hj : i = j
  · subst hj
    by_cases hl : i < e.length
    · rw [List.getElem?_set_self hl] at e1
      cases e1
      exact ⟨v, List.getElem?_set_self (by rw [← r.1]; exact hl), h⟩
    · rw [List.getElem?_eq_none (by simpa using hl)] at e1; cases e1
  · rw [List.getElem?_set_ne hj] at e1 ⊢
    exact r.2 j d' e1
def wipeE (e : En) : List Nat → En
  | [] => e
  | v :: vs => (wipeE e vs).set v none
theorem RelE.unset {K : PySem.W.Frag} {S : Wd} {e : En} {σ : L2.St} (r : RelE K S e σ) (i : Nat) : RelE K S (e.set i none) (σ.set i none) := by
  refine ⟨by simp [r.1], fun j d' e1 => ?_⟩
  by_cases hj : i = j
  · subst hj
    by_cases hl : i < e.length
    · rw [List.getElem?_set_self hl] at e1; cases e1
    · rw [List.getElem?_eq_none (by simpa using hl)] at e1; cases e1
  · rw [List.getElem?_set_ne hj] at e1 ⊢
    exact r.2 j d' e1
theorem RelE.wipe {K : PySem.W.Frag} {S : Wd} {e : En} {σ : L2.St} (r : RelE K S e σ) : ∀ vs : List Nat, RelE K S (wipeE e vs) (wipe σ vs)
  | [] => r
  | v :: vs => (RelE.wipe r vs).unset v

inductive RS where
  | stuck
  | nx (e : En) (m : Mu)
  | rt (d : D) (m : Mu)
  | bk (e : En) (m : Mu)
  | ct (e : En) (m : Mu)
  | exc (C : Addr) (fs : List (Str × D)) (e : En) (m : Mu)
def PostS (K : PySem.W.Frag) (S : Wd) (r : RS) (N : Ends) (W : WX) : Prop := match r with
  | .stuck => False
  | .nx e m => ∀ σ T, Stp S T → Sta K T m → RelE K T e σ → N.nx σ T.H
  | .rt d m => ∀ v T, Stp S T → Sta K T m → Rep K T.i T.F d v → N.rt v T.H
  | .bk e m => ∀ σ T, Stp S T → Sta K T m → RelE K T e σ → N.bk σ T.H
  | .ct e m => ∀ σ T, Stp S T → Sta K T m → RelE K T e σ → N.ct σ T.H
  | .exc C fs e m => ∀ dd vs σ T, Stp S T → S.H dd = none → Sta K T m → RelE K T e σ → T.H dd = some (.xd vs) → RepF K T.i T.F fs vs → W (.ref C) (some dd) σ T.H
theorem PostS.step {K : PySem.W.Frag} {S T : Wd} {r : RS} {N : Ends} {W : WX} (s : Stp S T) (h : PostS K S r N W) : PostS K T r N W := by
  cases r with
  | stuck => exact h
  | nx e m => exact fun σ U s1 => h σ U (s.trans s1)
  | rt d m => exact fun v U s1 => h v U (s.trans s1)
  | bk e m => exact fun σ U s1 => h σ U (s.trans s1)
  | ct e m => exact fun σ U s1 => h σ U (s.trans s1)
  | exc C fs e m => exact fun dd vs σ U s1 hn => h dd vs σ U (s.trans s1) (s.old dd hn)

/-! ### judgements -/
/-- this exception may leave X -/
def Fly (X : Cx) (c : Value) (d : Option Addr) (σ : L2.St) (H : Hp) : Prop := Takes X (fun c' d' σ' H' => c' = c ∧ d' = d ∧ σ' = σ ∧ H' = H)
theorem takesFly (X : Cx) : Takes X (Fly X) := fun u s' ⟨a, B, sI, pins, σ, H, cls, d, e, I, nb, up, sky, na, os, ag, w⟩ =>
  w u s' ⟨a, B, sI, pins, σ, H, cls, d, e, I, nb, up, sky, na, os, ag, rfl, rfl, rfl, rfl⟩
theorem Fly.of {X : Cx} {W : WX} (t : Takes X W) {c : Value} {d : Option Addr} {σ : L2.St} {H : Hp} (h : W c d σ H) : Fly X c d σ H := t.imp fun _ _ _ _ ⟨e1, e2, e3, e4⟩ => by subst e1 e2 e3 e4; exact h
def WE (X : Cx) (e : Expr) : TE := fun σ H Q => ∀ (pins : List (Addr × Obj)) (s : Shared), Inv X pins σ H s → wpAny (model X.prog X.w) X.A (eval e X.env) (EP X pins σ Q) X.xe s
def WT (X : Cx) (e : Expr) : TT := fun σ H Q => ∀ (pins : List (Addr × Obj)) (s : Shared), Inv X pins σ H s → wpAny (model X.prog X.w) X.A (isTrue e X.env (eval e X.env)) (TP X pins σ Q) X.xe s
def WW (X : Cx) (e : Expr) : TT := fun σ H Q => ∀ (whole : Sem Value) (pins : List (Addr × Obj)) (s : Shared), Inv X pins σ H s → wpAny (model X.prog X.w) X.A (isTrue e X.env whole) (TP X pins σ Q) X.xe s
def WA (X : Cx) (es : List Expr) : TA := fun σ H Q => ∀ (pos : Pos) (pins : List (Addr × Obj)) (s : Shared), Inv X pins σ H s → wpAny (model X.prog X.w) X.A (spliced (backTo pos (starEach es X.env))) (AP X pins σ Q) X.xe s
def WS (X : Cx) (st : Stmt) : TS := fun N σ H => ∀ (pins : List (Addr × Obj)) (s : Shared), Inv X pins σ H s → wpAny (model X.prog X.w) X.A (exec st X.env) (SP X pins N) X.xe s
def WSs (X : Cx) (st : List Stmt) : TS := fun N σ H => ∀ (pins : List (Addr × Obj)) (s : Shared), Inv X pins σ H s → wpAny (model X.prog X.w) X.A (execs st X.env) (SP X pins N) X.xe s
theorem mxE (X : Cx) (e : Expr) : PE X e (WE X e) := ⟨fun pins s σ H Q I h => h pins s I⟩
theorem mxT (X : Cx) (e : Expr) : PT X e (WT X e) := ⟨fun pins s σ H Q I h => h pins s I⟩
theorem mxW (X : Cx) (e : Expr) : PW X e (WW X e) := ⟨fun wh pins s σ H Q I h => h wh pins s I⟩
theorem mxA (X : Cx) (e : List Expr) : PA X e (WA X e) := ⟨fun pos pins s σ H Q I h => h pos pins s I⟩
theorem mxS (X : Cx) (e : Stmt) : PS X e (WS X e) := ⟨fun pins s σ H Q I h => h pins s I⟩
theorem mxSs (X : Cx) (e : List Stmt) : PSs X e (WSs X e) := ⟨fun pins s σ H Q I h => h pins s I⟩
abbrev DE := En → Mu → Res D
abbrev DT := En → Mu → Res Bool
abbrev DA := En → Mu → Res (List D)
abbrev DS := En → Mu → RS
abbrev DFn := List D → Mu → Res D
def PDE (X : Cx) (e : Expr) (t : DE) : Prop := ∀ S r m σ Q, Sta X.K S m → RelE X.K S r σ → PostD X.K S (t r m) Q (fun c d H => Fly X c d σ H) → WE X e σ S.H Q
def PDT (X : Cx) (e : Expr) (t : DT) : Prop := ∀ S r m σ Q, Sta X.K S m → RelE X.K S r σ → PostB X.K S (t r m) Q (fun c d H => Fly X c d σ H) → WT X e σ S.H Q
def PDW (X : Cx) (e : Expr) (t : DT) : Prop := ∀ S r m σ Q, Sta X.K S m → RelE X.K S r σ → PostB X.K S (t r m) Q (fun c d H => Fly X c d σ H) → WW X e σ S.H Q
def PDA (X : Cx) (e : List Expr) (t : DA) : Prop := ∀ S r m σ Q, Sta X.K S m → RelE X.K S r σ → PostL X.K S (t r m) Q (fun c d H => Fly X c d σ H) → WA X e σ S.H Q
def PDS (X : Cx) (e : Stmt) (t : DS) : Prop := ∀ S r m σ N, Sta X.K S m → RelE X.K S r σ → PostS X.K S (t r m) N (Fly X) → WS X e N σ S.H
def PDSs (X : Cx) (e : List Stmt) (t : DS) : Prop := ∀ S r m σ N, Sta X.K S m → RelE X.K S r σ → PostS X.K S (t r m) N (Fly X) → WSs X e N σ S.H
/-- by a rule of HandS -/
theorem pd_of {X : Cx} {e : Expr} {u : TE} {t : DE} (h : PE X e u) (k : ∀ S r m σ Q, Sta X.K S m → RelE X.K S r σ → PostD X.K S (t r m) Q (fun c d H => Fly X c d σ H) → u σ S.H Q) : PDE X e t :=
  fun S r m σ Q sa re p pins s I => h.run pins s σ S.H Q I (k S r m σ Q sa re p)
theorem pt_of {X : Cx} {e : Expr} {u : TT} {t : DT} (h : PT X e u) (k : ∀ S r m σ Q, Sta X.K S m → RelE X.K S r σ → PostB X.K S (t r m) Q (fun c d H => Fly X c d σ H) → u σ S.H Q) : PDT X e t :=
  fun S r m σ Q sa re p pins s I => h.run pins s σ S.H Q I (k S r m σ Q sa re p)
theorem pa_of {X : Cx} {e : List Expr} {u : TA} {t : DA} (h : PA X e u) (k : ∀ S r m σ Q, Sta X.K S m → RelE X.K S r σ → PostL X.K S (t r m) Q (fun c d H => Fly X c d σ H) → u σ S.H Q) : PDA X e t :=
  fun S r m σ Q sa re p pos pins s I => h.run pos pins s σ S.H Q I (k S r m σ Q sa re p)
theorem ps_of {X : Cx} {e : Stmt} {u : TS} {t : DS} (h : PS X e u) (k : ∀ S r m σ N, Sta X.K S m → RelE X.K S r σ → PostS X.K S (t r m) N (Fly X) → u N σ S.H) : PDS X e t :=
  fun S r m σ N sa re p pins s I => h.run pins s σ S.H N I (k S r m σ N sa re p)
end DL

namespace DL
open PySem PySem.Spec PyProof.Rows L2
variable [LamTab]

/-! ### what is read of data -/
/-- the items of a list -/
def seqL (m : Mu) : D → Option (List D)
  | .lst ds => some ds
  | .loc n => match m[n]? with
    | some (.lst ds) => some ds
    | _ => none
  | _ => none
def seqT : D → Option (List D)
  | .tup ds => some ds
  | _ => none
section
variable {K : PySem.W.Frag} {S T : Wd} {m : Mu}
theorem seqL_ok {d : D} {v : V} {ds : List D} (sa : Sta K S m) (r : Rep K S.i S.F d v) (h : seqL m d = some ds) : ∃ a xs, v = .ref a ∧ SqL K S.H a xs ∧ Reps K S.i S.F ds xs := by
  cases r with
  | lst h1 h2 => cases h; exact ⟨_, _, rfl, SqL.ext' h1 sa.sub, h2⟩
  | @loc n a h1 =>
    unfold seqL at h
    dsimp only at h
    split at h
    · rename_i ds' e
      cases h
      obtain ⟨xs, q1, q2⟩ := sa.ok n a _ h1 e
      exact ⟨a, xs, rfl, .inl (.inl q1), q2⟩
    · cases h
  | _ => cases h
theorem seqT_ok {d : D} {v : V} {ds : List D} (sa : Sta K S m) (r : Rep K S.i S.F d v) (h : seqT d = some ds) : ∃ a xs, v = .ref a ∧ SqT K S.H a xs ∧ Reps K S.i S.F ds xs := by
  cases r with
  | tup h1 h2 => cases h; exact ⟨_, _, rfl, SqT.ext' h1 sa.sub, h2⟩
  | _ => cases h
end
/-- truth, by a table for own classes -/
def dTru (m : Mu) : D → Option Bool
  | .non => some false
  | .bl b => some b
  | .int i => some (i != 0)
  | .str x => if x.length ≤ sizeLine then some ((x.length : Int) != 0) else none
  | .tup ds => some (!ds.isEmpty)
  | .lst ds => some (!ds.isEmpty)
  | .loc n => match m[n]? with
    | some (.lst ds) => some (!ds.isEmpty)
    | _ => none
  | _ => none
theorem isEmpty_reps {K : PySem.W.Frag} {i : List Addr} {F : Hp} {ds : List D} {xs : List V} (r : Reps K i F ds xs) : ds.isEmpty = xs.isEmpty := by cases r <;> rfl
theorem dTru_ok {K : PySem.W.Frag} {S : Wd} {m : Mu} {d : D} {v : V} {b : Bool} (sa : Sta K S m) (r : Rep K S.i S.F d v) (h : dTru m d = some b) : TruV K v S.H b := by
  cases r with
  | non => cases h; rfl
  | bl b => cases h; rfl
  | int i => cases h; rfl
  | str x =>
    unfold dTru at h
    dsimp only at h
    split at h
    · rename_i e; cases h; exact ⟨e, rfl⟩
    · cases h
  | tup h1 h2 => cases h; exact .inr (.inl ⟨_, SqT.ext' h1 sa.sub, by rw [isEmpty_reps h2]⟩)
  | lst h1 h2 => cases h; exact .inl ⟨_, SqL.ext' h1 sa.sub, by rw [isEmpty_reps h2]⟩
  | @loc n a h1 =>
    unfold dTru at h
    dsimp only at h
    split at h
    · rename_i ds' e
      cases h
      obtain ⟨xs, q1, q2⟩ := sa.ok n a _ h1 e
      exact .inl ⟨xs, .inl (.inl q1), by rw [isEmpty_reps q2]⟩
    · cases h
  | _ => cases h

/-! ### names, constants -/
def dVar (i : Nat) : DE := fun e m => match e[i]? with
  | some (some d) => .ok d m
  | _ => .stuck
def dC (d : D) : DE := fun _ m => .ok d m
section
variable {X : Cx}
theorem pd_var (i : Nat) {x : Str} {pos : Pos} (hN : X.N[i]? = some x := by rfl) (hv : Vis X.env.scope x := by first | exact Or.inl rfl | exact Or.inr (Or.inl rfl) | exact Or.inr (Or.inr rfl)) (hd : (x == ("__debug__" : Str)) = false := by decide)
    (hcd : (x == ("__classdict__" : Str)) = false := by decide) : PDE X (.Name x pos) (dVar i) := by
  refine pd_of (pe_var (i := i) hN hv hd hcd) fun S r m σ Q sa re p => ?_
  unfold dVar at p
  split at p
  · rename_i d e
    obtain ⟨v, h1, h2⟩ := re.2 i d e
    exact ⟨v, h1, Post.ok p (Stp.refl S) sa h2⟩
  · exact p.elim
theorem pd_int {i j pos} : PDE X (.Constant (.int i) j pos) (dC (.int i)) := pd_of pe_int fun S r m σ Q sa re p => Post.ok p (Stp.refl S) sa (.int i)
theorem pd_bl {i j pos} : PDE X (.Constant (.bool i) j pos) (dC (.bl i)) := pd_of pe_bl fun S r m σ Q sa re p => Post.ok p (Stp.refl S) sa (.bl i)
theorem pd_non {j pos} : PDE X (.Constant .none j pos) (dC .non) := pd_of pe_non fun S r m σ Q sa re p => Post.ok p (Stp.refl S) sa .non
theorem pd_str {i j pos} : PDE X (.Constant (.str i) j pos) (dC (.str i)) := pd_of pe_str fun S r m σ Q sa re p => Post.ok p (Stp.refl S) sa (.str i)
/-- a global by its value, told as data that hangs on nothing -/
structure RepA (K : PySem.W.Frag) (d : D) (v : V) : Prop where
  to : ∀ (i : List Addr) (F : Hp), Rep K i F d v
theorem RepA.int {K : PySem.W.Frag} (i : Int) : RepA K (.int i) (.int i) := ⟨fun _ _ => .int i⟩
theorem RepA.str {K : PySem.W.Frag} (i : Str) : RepA K (.str i) (.str i) := ⟨fun _ _ => .str i⟩
theorem RepA.val {K : PySem.W.Frag} (i : V) : RepA K (.val i) i := ⟨fun _ _ => .val i⟩
theorem pd_glob {x : Str} {v : V} {d : D} {u : Value} {pos : Pos} (ra : RepA X.K d v) (hm : X.mg x = some u) (r : RelV v u) (hg : Gl X x := by rfl) (hd : (x == ("__debug__" : Str)) = false := by decide) : PDE X (.Name x pos) (dC d) :=
  pd_of (pe_glob hg hm r hd) fun S r m σ Q sa re p => Post.ok p (Stp.refl S) sa (ra.to _ _)
theorem pd_bltn {x : Str} {v : V} {u : Value} {pos : Pos} (hm : X.mg x = none) (hv : bootBuiltins x = some u) (r : RelV v u) (hg : Gl X x := by rfl) (hn : x ≠ "__name__" := by decide) (hd : (x == ("__debug__" : Str)) = false := by decide) : PDE X (.Name x pos) (dC (.val v)) :=
  pd_of (pe_bltn hg hm hv r hn hd) fun S r m σ Q sa re p => Post.ok p (Stp.refl S) sa (.val v)

/-! ### operators -/
abbrev D2 := D → D → Mu → Res D
def dBin (f : D2) (a b : DE) : DE := fun e m => (a e m).bind fun x m1 => (b e m1).bind fun y m2 => f x y m2
/-- an operator by values -/
def OD (X : Cx) (f : Value → Value → Sem Value) (g : D2) : Prop :=
  ∀ (pins : List (Addr × Obj)) (s : Shared) (σ : L2.St) (S : Wd) (m : Mu) (x y : D) (vx vy : V) (u w : Value) (Q : VK), Sta X.K S m → Rep X.K S.i S.F x vx → Rep X.K S.i S.F y vy → Inv X pins σ S.H s → RelV vx u → RelV vy w →
    PostD X.K S (g x y m) Q (fun c d H => Fly X c d σ H) → wpAny (model X.prog X.w) X.A (f u w) (EP X pins σ Q) X.xe s
theorem od_of {f : Value → Value → Sem Value} {g : D2} {r : R2} (ho : OpR X f r)
    (k : ∀ (S : Wd) (m : Mu) (x y : D) (vx vy : V) (Q : VK) (W : XK), Sta X.K S m → Rep X.K S.i S.F x vx → Rep X.K S.i S.F y vy → PostD X.K S (g x y m) Q W → r vx vy S.H Q) : OD X f g :=
  fun pins s σ S m x y vx vy u w Q sa rx ry I hu hw p => ho pins s σ S.H vx vy u w Q I hu hw (k S m x y vx vy Q _ sa rx ry p)
/-- one or the other -/
def orD (f g : D2) : D2 := fun x y m => match f x y m with
  | .stuck => g x y m
  | r => r
theorem od_or {f : Value → Value → Sem Value} {g h : D2} (a : OD X f g) (b : OD X f h) : OD X f (orD g h) := by
  intro pins s σ S m x y vx vy u w Q sa rx ry I hu hw p
  unfold orD at p
  split at p
  · exact b pins s σ S m x y vx vy u w Q sa rx ry I hu hw p
  · exact a pins s σ S m x y vx vy u w Q sa rx ry I hu hw p
variable {a b c : Expr} {ta tb tc : DE} {pos : Pos}
theorem pd_two {f : Value → Value → Sem Value} {g : D2} (ha : PDE X a ta) (hb : PDE X b tb) (ho : OD X f g) {S : Wd} {r : En} {m : Mu} {σ : L2.St} {Q : VK} (sa : Sta X.K S m) (re : RelE X.K S r σ)
    (p : PostD X.K S (dBin g ta tb r m) Q (fun c d H => Fly X c d σ H)) {pins : List (Addr × Obj)} {s : Shared} (I : Inv X pins σ S.H s) :
    wpAny (model X.prog X.w) X.A (eval a X.env) (fun v s₁ => wpAny (model X.prog X.w) X.A (eval b X.env) (fun u s₂ => wpAny (model X.prog X.w) X.A (f v u) (EP X pins σ Q) X.xe s₂) X.xe s₁) X.xe s := by
  refine thn (ha S r m σ _ sa re (Post.bindI p (Q' := fun v H => ∃ d m1 T, H = T.H ∧ Stp S T ∧ Sta X.K T m1 ∧ Rep X.K T.i T.F d v ∧ PostD X.K T ((tb r m1).bind fun y m2 => g d y m2) Q (fun c d H => Fly X c d σ H)) fun d m1 v T st sa1 r1 q => ⟨d, m1, T, rfl, st, sa1, r1, q⟩) pins s I) ?_
  rintro v s1 ⟨x, H1, I1, r1, d, m1, T, rfl, st, sa1, rd, q⟩
  refine thn (hb T r m1 σ _ sa1 (re.stp st) (Post.bindI q (Q' := fun w H => ∃ d' m2 U, H = U.H ∧ Stp T U ∧ Sta X.K U m2 ∧ Rep X.K U.i U.F d' w ∧ PostD X.K U (g d d' m2) Q (fun c d H => Fly X c d σ H)) fun d' m2 v U st sa2 r2 q => ⟨d', m2, U, rfl, st, sa2, r2, q⟩) pins s1 I1) ?_
  rintro u s2 ⟨y, H2, I2, r2, d', m2, U, rfl, st2, sa2, rd2, q2⟩
  exact ho pins s2 σ U m2 d d' x y v u Q sa2 (rd.stp st2) rd2 I2 r1 r2 q2
theorem pd_op {op : Operator} {g : D2} (ho : OD X (binaryOp op) g) (ha : PDE X a ta) (hb : PDE X b tb) : PDE X (.BinOp a op b pos) (dBin g ta tb) :=
  fun S r m σ Q sa re p pins s I => wpAny_BinOp (pd_two ha hb ho sa re p I)
theorem pd_cmp {op : CmpOp} {g : D2} (ho : OD X (compareOp op) g) (ha : PDE X a ta) (hb : PDE X b tb) (hm : behindInMarks op b = false := by first | exact nomark _ | rfl) : PDE X (.Compare a [op] [b] pos) (dBin g ta tb) :=
  fun S r m σ Q sa re p pins s I => wpAny_Compare1 (pd_two ha hb ho sa re p I) hm
/-- a test whose value is a bool -/
def dTst (t : DE) : DT := fun e m => (t e m).bind fun d m => match d with
  | .bl b => .ok b m
  | _ => .stuck
theorem EP.bool {pins : List (Addr × Obj)} {σ : L2.St} {S : Wd} {r : Res D} {Q : Bool → Hp → Prop} {W : XK} (p : PostB X.K S (r.bind fun d m => match d with | .bl b => Res.ok b m | _ => .stuck) Q W) :
    PostD X.K S r (fun v H => ∃ b, v = .bl b ∧ Q b H) W := by
  refine Post.bindI p fun d m v T st sa rd q => ?_
  cases rd with
  | bl b => exact ⟨b, rfl, Post.ok q (Stp.refl T) sa rfl⟩
  | _ => exact q.elim
theorem pdt_cmp {op : CmpOp} {g : D2} (ho : OD X (compareOp op) g) (ha : PDE X a ta) (hb : PDE X b tb) (hm : behindInMarks op b = false := by first | exact nomark _ | rfl) : PDT X (.Compare a [op] [b] pos) (dTst (dBin g ta tb)) := by
  intro S r m σ Q sa re p pins s I
  refine wpAny_isTrue_Compare1 (thn (pd_two ha hb ho sa re (EP.bool (pins := pins) (σ := σ) p) I) fun v s1 h1 => thn h1 fun u s2 h2 => thn h2 fun w s3 ⟨x, H1, I1, r1, b, e, q⟩ => ?_) hm
  subst e
  cases r1
  exact wpAny_truthy_bool ⟨H1, I1, q⟩
/-- any expression by its truth -/
def dTr (t : DE) : DT := fun e m => (t e m).bind fun d m => match dTru m d with
  | some b => .ok b m
  | none => .stuck
theorem pdt_truth (ha : PDE X a ta) (he : ∀ whole, isTrue a X.env whole = (do let v ← whole; standAt a.pos; holding [v] (truthy v)) := by intro _; rfl) : PDT X a (dTr ta) := by
  refine pt_of (pt_truth (mxE X a) he) fun S r m σ Q sa re p => ?_
  refine ha S r m σ _ sa re (Post.bindI p fun d m v T st sa rd q => ?_)
  split at q
  · rename_i b e
    exact ⟨b, dTru_ok sa rd e, Post.ok q (Stp.refl T) sa rfl⟩
  · exact q.elim
/-- the same, where a bool must come -/
theorem pdt_val (ha : PDE X a ta) (he : ∀ whole, isTrue a X.env whole = (do let v ← whole; standAt a.pos; holding [v] (truthy v)) := by intro _; rfl) : PDT X a (dTst ta) := by
  refine pt_of (pt_val (mxE X a) he) fun S r m σ Q sa re p => ?_
  exact ha S r m σ _ sa re (EP.bool (pins := []) (σ := σ) p)
def dNotT (t : DT) : DT := fun e m => (t e m).bind fun b m => .ok (!b) m
theorem pdt_not {t : DT} (ha : PDT X a t) : PDT X (.UnaryOp .Not a pos) (dNotT t) := by
  refine pt_of (pt_not (mxT X a)) fun S r m σ Q sa re p => ?_
  refine ha S r m σ _ sa re (Post.bindI p fun d m v T st sa rd q => ?_)
  have rd : d = v := rd
  subst rd
  exact Post.ok q (Stp.refl T) sa rfl
def dAndT (t u : DT) : DT := fun e m => (t e m).bind fun b m => if b then u e m else .ok false m
def dOrT (t u : DT) : DT := fun e m => (t e m).bind fun b m => if b then .ok true m else u e m
variable {rest : List Expr} {tt tu : DT}
theorem pdw_and1 (ha : PDT X a tt) : PDW X (.BoolOp .And [a] pos) tt := fun S r m σ Q sa re p wh pins s I => (pw_and1 (mxT X a)).run wh pins s σ S.H Q I (ha S r m σ Q sa re p)
theorem pdw_or1 (ha : PDT X a tt) : PDW X (.BoolOp .Or [a] pos) tt := fun S r m σ Q sa re p wh pins s I => (pw_or1 (mxT X a)).run wh pins s σ S.H Q I (ha S r m σ Q sa re p)
theorem pdw_and (ha : PDT X a tt) (hb : PDW X (.BoolOp .And (b :: rest) pos) tu) : PDW X (.BoolOp .And (a :: b :: rest) pos) (dAndT tt tu) := by
  intro S r m σ Q sa re p wh pins s I
  refine (pw_and (mxT X a) (mxW X _)).run wh pins s σ S.H Q I (ha S r m σ _ sa re (Post.bindI p fun d m v T st sa rd q => ?_))
  have rd : d = v := rd
  subst rd
  cases d with
  | true => exact iteT (hb T r m σ Q sa (re.stp st) q)
  | false => exact iteF (Post.ok q (Stp.refl T) sa rfl)
theorem pdw_or (ha : PDT X a tt) (hb : PDW X (.BoolOp .Or (b :: rest) pos) tu) : PDW X (.BoolOp .Or (a :: b :: rest) pos) (dOrT tt tu) := by
  intro S r m σ Q sa re p wh pins s I
  refine (pw_or (mxT X a) (mxW X _)).run wh pins s σ S.H Q I (ha S r m σ _ sa re (Post.bindI p fun d m v T st sa rd q => ?_))
  have rd : d = v := rd
  subst rd
  cases d with
  | true => exact iteT (Post.ok q (Stp.refl T) sa rfl)
  | false => exact iteF (hb T r m σ Q sa (re.stp st) q)
theorem PDW.pt {e : Expr} {t : DT} (h : PDW X e t) : PDT X e t := fun S r m σ Q sa re p pins s I => h S r m σ Q sa re p _ pins s I
/-- and, or, not as values, of bools -/
def dAnd (t u : DE) : DE := fun e m => (t e m).bind fun d m => match d with
  | .bl true => u e m
  | .bl false => .ok (.bl false) m
  | _ => .stuck
def dOr (t u : DE) : DE := fun e m => (t e m).bind fun d m => match d with
  | .bl false => u e m
  | .bl true => .ok (.bl true) m
  | _ => .stuck
theorem pd_one {op} (h : PDE X a ta) : PDE X (.BoolOp op [a] pos) ta := pd_of (pe_one (mxE X a)) h
theorem pd_and (ha : PDE X a ta) (hb : PDE X (.BoolOp .And (b :: rest) pos) tb) : PDE X (.BoolOp .And (a :: b :: rest) pos) (dAnd ta tb) := by
  refine pd_of (pe_and (mxE X a) (mxE X _)) fun S r m σ Q sa re p => ?_
  refine ha S r m σ _ sa re (Post.bindI p fun d m v T st sa rd q => ?_)
  cases rd with
  | bl b =>
    refine ⟨b, rfl, ?_⟩
    cases b with
    | true => exact iteT (hb T r m σ Q sa (re.stp st) q)
    | false => exact iteF (Post.ok q (Stp.refl T) sa (.bl false))
  | _ => exact q.elim
theorem pd_or (ha : PDE X a ta) (hb : PDE X (.BoolOp .Or (b :: rest) pos) tb) : PDE X (.BoolOp .Or (a :: b :: rest) pos) (dOr ta tb) := by
  refine pd_of (pe_or (mxE X a) (mxE X _)) fun S r m σ Q sa re p => ?_
  refine ha S r m σ _ sa re (Post.bindI p fun d m v T st sa rd q => ?_)
  cases rd with
  | bl b =>
    refine ⟨b, rfl, ?_⟩
    cases b with
    | true => exact iteT (Post.ok q (Stp.refl T) sa (.bl true))
    | false => exact iteF (hb T r m σ Q sa (re.stp st) q)
  | _ => exact q.elim
def dNot (t : DE) : DE := fun e m => (t e m).bind fun d m => match d with
  | .bl b => .ok (.bl !b) m
  | _ => .stuck
theorem pd_not (ha : PDE X a ta) : PDE X (.UnaryOp .Not a pos) (dNot ta) := by
  refine pd_of (pe_not (mxE X a)) fun S r m σ Q sa re p => ?_
  refine ha S r m σ _ sa re (Post.bindI p fun d m v T st sa rd q => ?_)
  cases rd with
  | bl b => exact ⟨b, rfl, Post.ok q (Stp.refl T) sa (.bl _)⟩
  | _ => exact q.elim
def dIf (t : DT) (u w : DE) : DE := fun e m => (t e m).bind fun b m => if b then u e m else w e m
theorem pd_if {c : Expr} (hc : PDT X c tt) (ha : PDE X a ta) (hb : PDE X b tb) : PDE X (.IfExp c a b pos) (dIf tt ta tb) := by
  refine pd_of (pe_ifExp (mxT X c) (mxE X a) (mxE X b)) fun S r m σ Q sa re p => ?_
  refine hc S r m σ _ sa re (Post.bindI p fun d m v T st sa rd q => ?_)
  have rd : d = v := rd
  subst rd
  cases d with
  | true => exact iteT (ha T r m σ Q sa (re.stp st) q)
  | false => exact iteF (hb T r m σ Q sa (re.stp st) q)
/-- an expression, then the rest -/
theorem PDE.run {γ δ : Type} {R' : Wd → γ → δ → Prop} {a : Expr} {ta : DE} (ha : PDE X a ta) {S : Wd} {r : En} {m : Mu} {σ : L2.St} {f : D → Mu → Res γ} {Q : δ → Hp → Prop} (sa : Sta X.K S m) (re : RelE X.K S r σ)
    (p : Post R' X.K S ((ta r m).bind f) Q (fun c d H => Fly X c d σ H)) {pins : List (Addr × Obj)} {s : Shared} (I : Inv X pins σ S.H s) :
    wpAny (model X.prog X.w) X.A (eval a X.env) (fun v s1 => ∃ (x : V) (d : D) (m1 : Mu) (T : Wd), Stp S T ∧ Sta X.K T m1 ∧ Rep X.K T.i T.F d x ∧ RelV x v ∧ Inv X pins σ T.H s1 ∧ Post R' X.K T (f d m1) Q (fun c d H => Fly X c d σ H)) X.xe s := by
  refine thn (ha S r m σ _ sa re (Post.bindI p (Q' := fun v H => ∃ d m1 T, H = T.H ∧ Stp S T ∧ Sta X.K T m1 ∧ Rep X.K T.i T.F d v ∧ Post R' X.K T (f d m1) Q (fun c d H => Fly X c d σ H)) fun d m1 v T st sa1 r1 q => ⟨d, m1, T, rfl, st, sa1, r1, q⟩) pins s I) ?_
  rintro v s1 ⟨x, H1, I1, r1, d, m1, T, rfl, st, sa1, rd, q⟩
  exact ⟨x, d, m1, T, st, sa1, rd, r1, I1, q⟩
theorem OD.run {γ δ : Type} {R' : Wd → γ → δ → Prop} {f : Value → Value → Sem Value} {g : D2} (ho : OD X f g) {S : Wd} {m : Mu} {σ : L2.St} {h : D → Mu → Res γ} {Q : δ → Hp → Prop} {x y : D} {vx vy : V} {u w : Value} (sa : Sta X.K S m)
    (rx : Rep X.K S.i S.F x vx) (ry : Rep X.K S.i S.F y vy) (hu : RelV vx u) (hw : RelV vy w)
    (p : Post R' X.K S ((g x y m).bind h) Q (fun c d H => Fly X c d σ H)) {pins : List (Addr × Obj)} {s : Shared} (I : Inv X pins σ S.H s) :
    wpAny (model X.prog X.w) X.A (f u w) (fun v s1 => ∃ (x : V) (d : D) (m1 : Mu) (T : Wd), Stp S T ∧ Sta X.K T m1 ∧ Rep X.K T.i T.F d x ∧ RelV x v ∧ Inv X pins σ T.H s1 ∧ Post R' X.K T (h d m1) Q (fun c d H => Fly X c d σ H)) X.xe s := by
  refine thn (ho pins s σ S m x y vx vy u w _ sa rx ry I hu hw (Post.bindI p (Q' := fun v H => ∃ d m1 T, H = T.H ∧ Stp S T ∧ Sta X.K T m1 ∧ Rep X.K T.i T.F d v ∧ Post R' X.K T (h d m1) Q (fun c d H => Fly X c d σ H)) fun d m1 v T st sa1 r1 q => ⟨d, m1, T, rfl, st, sa1, r1, q⟩)) ?_
  rintro v s1 ⟨x, H1, I1, r1, d, m1, T, rfl, st, sa1, rd, q⟩
  exact ⟨x, d, m1, T, st, sa1, rd, r1, I1, q⟩
/-- a < b < c -/
def dChain (g h : D2) (ta tb tc : DE) : DE := fun e m => (ta e m).bind fun x m1 => (tb e m1).bind fun y m2 => (g x y m2).bind fun z m3 => match z with
  | .bl true => (tc e m3).bind fun w m4 => h y w m4
  | .bl false => .ok (.bl false) m3
  | _ => .stuck
theorem pd_chain {op op' : CmpOp} {g h : D2} (ho : OD X (compareOp op) g) (ho' : OD X (compareOp op') h) (ha : PDE X a ta) (hb : PDE X b tb) (hc : PDE X c tc)
    (hm : lastMarks [op, op'] [b, c] = false := by with_unfolding_all rfl) : PDE X (.Compare a [op, op'] [b, c] pos) (dChain g h ta tb tc) := by
  intro S r m σ Q sa re p pins s I
  refine Compare_chain (thn (ha.run sa re p I) ?_) hm
  rintro v s1 ⟨x, d, m1, T, st, sa1, rd, r1, I1, q⟩
  refine chain_link (thn (hb.run sa1 (re.stp st) q I1) ?_)
  rintro u s2 ⟨y, d', m2, U, st2, sa2, rd2, r2, I2, q2⟩
  refine thn (ho.run sa2 (rd.stp st2) rd2 r1 r2 q2 I2) ?_
  rintro w s3 ⟨z, d3, m3, Y, st3, sa3, rd3, r3, I3, q3⟩
  cases rd3 with
  | bl k =>
    cases r3
    refine wpAny_truthy_bool ?_
    cases k with
    | false => exact ite_ff ⟨.bl false, _, I3, rfl, Post.ok q3 (Stp.refl Y) sa3 (.bl false)⟩
    | true =>
      refine ite_tt (chain_last (thn (hc.run sa3 (((re.stp st).stp st2).stp st3) q3 I3) ?_))
      rintro w' s4 ⟨z', d4, m4, Z, st4, sa4, rd4, r4, I4, q4⟩
      exact ho' pins s4 σ Z m4 d' d4 y z' u w' Q sa4 ((rd2.stp st3).stp st4) rd4 I4 r2 r4 q4
  | _ => exact (show False from q3).elim
end
end DL

namespace DL
open PySem PySem.Spec PyProof.Rows L2
variable [LamTab]

/-! ### argument lists, displays -/
def isStar : Expr → Bool
  | .Starred _ _ => true
  | _ => false
theorem se_cons (e : Expr) (rest : List Expr) (env : Env) (h : isStar e = false) : starEach (e :: rest) env = (false, eval e env) :: starEach rest env := by
  cases e <;> first | rfl | (cases h)
theorem se_any (pos : Pos) (env : Env) : ∀ (es : List Expr), es.all (fun e => !isStar e) = true → (backTo pos (starEach es env)).any (·.1) = false := fun es => by
  induction es with
  | nil => intro _; rfl
  | cons e es ih =>
    intro h
    simp only [List.all_cons, Bool.and_eq_true, Bool.not_eq_true'] at h
    rw [se_cons e es env h.1]
    exact ih h.2
def dNil : DA := fun _ m => .ok [] m
def dCons (t : DE) (u : DA) : DA := fun e m => (t e m).bind fun d m1 => (u e m1).bind fun ds m2 => .ok (d :: ds) m2
section
variable {X : Cx} {a : Expr} {es : List Expr} {ta : DE} {t : DA} {pos : Pos}
theorem pda_nil : PDA X [] dNil := pa_of pa_nil fun S r m σ Q sa re p => Post.ok p (Stp.refl S) sa .nil
theorem pda_cons (ha : PDE X a ta) (hr : PDA X es t) (hs : starEach (a :: es) X.env = (false, eval a X.env) :: starEach es X.env := by exact se_cons _ _ _ rfl) : PDA X (a :: es) (dCons ta t) := by
  refine pa_of (pa_cons (mxE X a) (mxA X es) hs) fun S r m σ Q sa re p => ?_
  refine ha S r m σ _ sa re (Post.bindI p fun d m1 v T st sa1 rd q => ?_)
  refine hr T r m1 σ _ sa1 (re.stp st) (Post.bindI q fun ds m2 vs U st2 sa2 rds q2 => ?_)
  exact Post.ok q2 (Stp.refl U) sa2 (.cons (rd.stp st2) rds)
theorem pda_str {i : Str} {j : Nat} {p : Pos} (hr : PDA X es t) : PDA X (.Constant (.str i) j p :: es) (dCons (dC (.str i)) t) := pda_cons pd_str hr (se_cons _ _ _ rfl)
theorem pda_int {i : Int} {j : Nat} {p : Pos} (hr : PDA X es t) : PDA X (.Constant (.int i) j p :: es) (dCons (dC (.int i)) t) := pda_cons pd_int hr (se_cons _ _ _ rfl)
theorem pda_bl {i : Bool} {j : Nat} {p : Pos} (hr : PDA X es t) : PDA X (.Constant (.bool i) j p :: es) (dCons (dC (.bl i)) t) := pda_cons pd_bl hr (se_cons _ _ _ rfl)
theorem pda_non {j : Nat} {p : Pos} (hr : PDA X es t) : PDA X (.Constant .none j p :: es) (dCons (dC .non) t) := pda_cons pd_non hr (se_cons _ _ _ rfl)
theorem PDA.run {γ δ : Type} {R' : Wd → γ → δ → Prop} (ha : PDA X es t) {S : Wd} {r : En} {m : Mu} {σ : L2.St} {f : List D → Mu → Res γ} {Q : δ → Hp → Prop} (sa : Sta X.K S m) (re : RelE X.K S r σ)
    (p : Post R' X.K S ((t r m).bind f) Q (fun c d H => Fly X c d σ H)) {pins : List (Addr × Obj)} {s : Shared} (I : Inv X pins σ S.H s) (pos : Pos) :
    wpAny (model X.prog X.w) X.A (spliced (backTo pos (starEach es X.env))) (fun us s1 => ∃ (xs : List V) (ds : List D) (m1 : Mu) (T : Wd), Stp S T ∧ Sta X.K T m1 ∧ Reps X.K T.i T.F ds xs ∧ Vals xs us ∧ Inv X pins σ T.H s1 ∧ Post R' X.K T (f ds m1) Q (fun c d H => Fly X c d σ H)) X.xe s := by
  refine thn (ha S r m σ _ sa re (Post.bindI p (Q' := fun v H => ∃ d m1 T, H = T.H ∧ Stp S T ∧ Sta X.K T m1 ∧ Reps X.K T.i T.F d v ∧ Post R' X.K T (f d m1) Q (fun c d H => Fly X c d σ H)) fun d m1 v T st sa1 r1 q => ⟨d, m1, T, rfl, st, sa1, r1, q⟩) pos pins s I) ?_
  rintro us s1 ⟨xs, H1, I1, r1, d, m1, T, rfl, st, sa1, rd, q⟩
  exact ⟨xs, d, m1, T, st, sa1, rd, r1, I1, q⟩
/-- a tuple; a list that is never changed; a list of the store -/
def dTup (t : DA) : DE := fun e m => (t e m).bind fun ds m1 => if ds.length ≤ sizeLine then .ok (.tup ds) m1 else .stuck
def dLst (t : DA) : DE := fun e m => (t e m).bind fun ds m1 => if ds.length ≤ sizeLine then .ok (.lst ds) m1 else .stuck
def dLoc (t : DA) : DE := fun e m => (t e m).bind fun ds m1 => if ds.length ≤ sizeLine then .ok (.loc m1.length) (m1 ++ [.lst ds]) else .stuck
theorem pd_tup {x1} (h : PDA X es t) : PDE X (.Tuple es x1 pos) (dTup t) := by
  refine pd_of (pe_tup (mxA X es)) fun S r m σ Q sa re p => ?_
  refine h S r m σ _ sa re (Post.bindI p fun ds m1 vs T st sa1 rds q => ?_)
  split at q
  · rename_i hl
    refine ⟨by rw [← rds.len]; exact hl, fun p hp => ?_⟩
    have st1 := Stp.new sa1 (o := .tup vs) hp
    exact q (.ref p) (T.new p (.tup vs)) st1 (sa1.new hp) (.tup (.inl (.inl upd_same)) (rds.stp st1))
  · exact q.elim
theorem pd_lst (h : PDA X es t) : PDE X (.List es pos) (dLst t) := by
  refine pd_of (pe_lst (mxA X es)) fun S r m σ Q sa re p => ?_
  refine h S r m σ _ sa re (Post.bindI p fun ds m1 vs T st sa1 rds q => ?_)
  split at q
  · rename_i hl
    refine ⟨by rw [← rds.len]; exact hl, fun p hp => ?_⟩
    have st1 := Stp.new sa1 (o := .lst vs) hp
    exact q (.ref p) (T.new p (.lst vs)) st1 (sa1.new hp) (.lst (.inl (.inl upd_same)) (rds.stp st1))
  · exact q.elim
theorem pd_loc (h : PDA X es t) : PDE X (.List es pos) (dLoc t) := by
  refine pd_of (pe_lst (mxA X es)) fun S r m σ Q sa re p => ?_
  refine h S r m σ _ sa re (Post.bindI p fun ds m1 vs T st sa1 rds q => ?_)
  split at q
  · rename_i hl
    refine ⟨by rw [← rds.len]; exact hl, fun p hp => ?_⟩
    have st1 := Stp.tok sa1 (o := .lst vs) hp
    refine q (.ref p) (T.tok p (.lst vs)) st1 (sa1.tok hp (q := .lst ds) ⟨vs, upd_same, rds.stp st1⟩) (.loc ?_)
    show (T.i ++ [p])[m1.length]? = some p
    rw [← sa1.len, List.getElem?_append_right (Nat.le_refl _), Nat.sub_self]
    rfl
  · exact q.elim
end

/-! ### defs -/
/-- a def's promise by a function upon data -/
def spD (K : PySem.W.Frag) (n : Nat) (F : DFn) : Sp := fun vs H Q E => vs.length = n ∧ ∃ (S : Wd) (m : Mu) (ds : List D), S.H = H ∧ Sta K S m ∧ Reps K S.i S.F ds vs ∧ PostD K S (F ds m) Q E
abbrev FnD (P : Program) (w : World) (K : PySem.W.Frag) (mg : Str → Option Value) (base : Heap) (k : Nat) (f : Addr) (fd : FuncData) (ps : List Str) (F : DFn) : Prop := FnOk P w K mg base (L2.CX P w) k f fd ps (spD K ps.length F)
def env0 (N : Nat) (ds : List D) : En := ds.map some ++ List.replicate (N - ds.length) none
def dFn (N : Nat) (body : DS) : DFn := fun ds m => match body (env0 N ds) m with
  | .nx _ m1 => .ok .non m1
  | .rt d m1 => .ok d m1
  | .exc C fs _ m1 => .exc C fs m1
  | _ => .stuck
theorem relE_start {K : PySem.W.Frag} {S : Wd} {ds : List D} {vs : List V} {N : List Str} (r : Reps K S.i S.F ds vs) : RelE K S (env0 N.length ds) (L2.start N vs) := by
  have hl := r.len
  refine ⟨by simp [env0, L2.start, hl], fun i d e => ?_⟩
  unfold env0 at e
  by_cases hi : i < ds.length
  · rw [List.getElem?_append_left (by simpa using hi), List.getElem?_map] at e
    cases q : ds[i]? with
    | none => rw [q] at e; cases e
    | some d' =>
      rw [q] at e; cases e
      obtain ⟨v, h1, h2⟩ := r.get q
      refine ⟨v, ?_, h2⟩
      unfold L2.start
      rw [List.getElem?_append_left (by rw [List.length_map, ← hl]; exact hi), List.getElem?_map, h1]
      rfl
  · rw [List.getElem?_append_right (by simpa using hi), List.getElem?_replicate] at e
    split at e <;> cases e
section
variable {P : Program} {w : World} {K : PySem.W.Frag} {mg : Str → Option Value} {base : Heap}
theorem fnD_of {x qual : Str} {params : Arguments} {body : List Stmt} {scope : Scope} {dvs : List V} {kws : List (Str × V)} {f : Addr} {fd : FuncData} {N ps : List Str} {k : Nat} {t : DS} (F : FunD K x qual params body scope dvs kws f fd) (S : FnScope N ps scope)
    (h : ∀ (cdv : Value) (A : Around) (outer : List Env) (s : Shared) (H : Hp) (E : XK), Room k (A.deeper (envOfC qual scope s.heap.objs.size f cdv)) → PDSs (cxOf (L2.CX P w) P w K mg base N qual scope f cdv A outer s H E) body t) :
    FnD P w K mg base (k + 1) f fd ps (dFn N.length t) := by
  refine F.ok S (fun vs H Q E h => h.1) fun cdv A outer s H vs Q E hr hsp => ⟨_, mxSs _ body, ?_⟩
  obtain ⟨_, T, m, ds, rfl, sa, rd, p⟩ := hsp
  refine h cdv A outer s T.H E hr T (env0 N.length ds) m (L2.start N vs) _ sa (relE_start rd) ?_
  have tk : Takes (cxOf (L2.CX P w) P w K mg base N qual scope f cdv A outer s T.H E) (fun cls d _ H => E cls d H) := takes_of rfl rfl rfl rfl
  unfold dFn at p
  cases q : t (env0 N.length ds) m with
  | stuck => rw [q] at p; exact p.elim
  | nx e m1 => rw [q] at p; exact fun σ U st sa1 re => p .non U st sa1 .non
  | rt d m1 => rw [q] at p; exact fun v U st sa1 r1 => p v U st sa1 r1
  | bk e m1 => rw [q] at p; exact p.elim
  | ct e m1 => rw [q] at p; exact p.elim
  | exc C fs e m1 => rw [q] at p; exact fun dd vs σ U st hn sa1 re h1 h2 => Fly.of tk (p dd vs U st hn sa1 h1 h2)
/-- another function that answers where this one does -/
theorem FnD.imp' {k : Nat} {f : Addr} {fd : FuncData} {ps : List Str} {F G : DFn} (h : FnD P w K mg base k f fd ps F) (e : ∀ ds m, G ds m ≠ .stuck → F ds m = G ds m) : FnD P w K mg base k f fd ps G :=
  FnOk.imp h fun vs H Q E ⟨h1, S, m, ds, h2, h3, h4, h5⟩ => ⟨h1, S, m, ds, h2, h3, h4, by
    by_cases hs : G ds m = .stuck
    · rw [hs] at h5; exact h5.elim
    · rw [e ds m hs]; exact h5⟩
end
/-- how a def is bound: the written arguments, then these -/
structure Bd (K : PySem.W.Frag) (fd : FuncData) (ps : List Str) (dds : List D) : Prop where
  ex : ∃ (ds : List Value) (dvs : List V), Binds K fd ps ds ∧ Vals dvs ds ∧ ∀ (i : List Addr) (F : Hp), Reps K i F dds dvs
theorem Bd.nil {K : PySem.W.Frag} {fd : FuncData} {ps : List Str} (h : Binds K fd ps []) : Bd K fd ps [] := ⟨[], [], h, .nil, fun _ _ => .nil⟩
section
variable {X : Cx} {k : Nat} {f : Addr} {fd : FuncData} {ps : List Str} {G : DFn} {dds : List D}
theorem run_fnD {pins : List (Addr × Obj)} {σ : L2.St} {S : Wd} {m : Mu} {s : Shared} {Q : VK} {us : List Value} {vs : List V} {das : List D} (F : FnD X.prog X.w X.K X.mg X.base k f fd ps G) (hr : Room k X.A) (hb : Bd X.K fd ps dds)
    (I : Inv X pins σ S.H s) (sa : Sta X.K S m) (r : Reps X.K S.i S.F das vs) (rv : Vals vs us) (hl : (das ++ dds).length = ps.length) (h : PostD X.K S (G (das ++ dds) m) Q (fun c d H => Fly X c d σ H)) : wpAny (model X.prog X.w) X.A (call (.ref f) us) (EP X pins σ Q) X.xe s := by
  obtain ⟨ds, dvs, hb, hd, hD⟩ := hb.ex
  have r1 : Reps X.K S.i S.F (das ++ dds) (vs ++ dvs) := r.append (hD _ _)
  have r2 : Vals (vs ++ dvs) (us ++ ds) := rv.append hd
  have hlv : (vs ++ dvs).length = ps.length := by rw [← r1.len]; exact hl
  have hl2 : (us ++ ds).length = ps.length := by rw [← r2.length]; exact hlv
  refine wpAny_call (codeAny_mono (F.run X.A X.stack s S.H ⟨us, []⟩ (us ++ ds) (vs ++ dvs) Q (fun c d H => Fly X c d σ H) hr I.env0 (hb s us I.kIn hl2) r2 ⟨hlv, S, m, _, rfl, sa, r1, h⟩) fun r s' hq => ?_)
  cases r with
  | error e =>
    obtain ⟨a, B, sI, pins', σ', H', cls, d, e1, I', nb, up, sky, na, os, ag, e2, fl⟩ := XE.of_call I (W := fun c d σ' H => σ' = σ ∧ Fly X c d σ H) (fun cls d H' h => ⟨rfl, h⟩) hq
    exact fl e s' ⟨a, B, sI, pins', σ', H', cls, d, e1, I', nb, up, sky, na, os, ag, rfl, rfl, e2, rfl⟩
  | ok fl =>
    cases fl with
    | ret u => exact I.after hq
    | next => exact False.elim hq
    | brk => exact False.elim hq
    | cont => exact False.elim hq
def dCall (G : DFn) (n : Nat) (dds : List D) (t : DA) : DE := fun e m => (t e m).bind fun ds m1 => if (ds ++ dds).length = n then G (ds ++ dds) m1 else .stuck
variable {x mn : Str} {p pos apos : Pos} {e o : Expr} {es : List Expr} {t : DA} {to : DE}
theorem pd_call (F : FnD X.prog X.w X.K X.mg X.base k f fd ps G) (hr : Room k X.A) (hm : X.mg x = some (.ref f)) (hk : PySem.W.keepIn X.K (.ref f) = true) (hb : Bd X.K fd ps dds) (ha : PDA X (e :: es) t)
    (hg : Gl X x := by rfl) (hdb : (x == ("__debug__" : Str)) = false := by decide) (he : starEach (e :: es) X.env = (false, eval e X.env) :: starEach es X.env := by exact se_cons _ _ _ rfl) (hpl : (backTo pos (starEach es X.env)).any (·.1) = false := by exact se_any _ _ _ rfl) :
    PDE X (.Call (.Name x p) (e :: es) [] pos) (dCall G ps.length dds t) := by
  intro S r m σ Q sa re q pins s I
  refine wpAny_Call_Name_kw (ld_glob I hg hm ?_ hdb)
  refine PySem.W.callWith_K (h₀ := X.base) I.ok.mod.kin hk (thn (ha.run sa re q I pos) ?_) he hpl
  rintro us s1 ⟨xs, ds, m1, T, st, sa1, rds, rv, I1, q1⟩
  refine ⟨I1.kIn, ?_⟩
  split at q1
  · rename_i hl
    exact run_fnD F hr hb I1 sa1 rds rv hl q1
  · exact q1.elim
theorem pd_call0 (F : FnD X.prog X.w X.K X.mg X.base k f fd ps G) (hr : Room k X.A) (hm : X.mg x = some (.ref f)) (hk : PySem.W.keepIn X.K (.ref f) = true) (hb : Bd X.K fd ps dds)
    (hg : Gl X x := by rfl) (hdb : (x == ("__debug__" : Str)) = false := by decide) : PDE X (.Call (.Name x p) [] [] pos) (dCall G ps.length dds dNil) := by
  intro S r m σ Q sa re q pins s I
  refine wpAny_Call_Name_kw (ld_glob I hg hm ?_ hdb)
  have q : PostD X.K S (if ([] ++ dds).length = ps.length then G ([] ++ dds) m else .stuck) Q _ := q
  split at q
  · rename_i hl
    exact PySem.W.callWith_K0 I.kIn hk (run_fnD (us := []) F hr hb I sa .nil .nil hl q)
  · exact q.elim

/-! ### objects -/
/-- the class and the attributes of an instance that never changes, or of the store -/
def insOf (m : Mu) : D → Option (Addr × List Str × List D)
  | .obj c ds => some (c.a, c.ns, ds)
  | .loc n => match m[n]? with
    | some (.ins C fs) => some (C, fs.map (·.1), fs.map (·.2))
    | _ => none
  | _ => none
theorem RepF.split {K : PySem.W.Frag} {i : List Addr} {F : Hp} : ∀ {fs : List (Str × D)} {vs : List (Str × V)}, RepF K i F fs vs → vs.map (·.1) = fs.map (·.1) ∧ Reps K i F (fs.map (·.2)) (vs.map (·.2))
  | _, _, .nil => ⟨rfl, .nil⟩
  | _, _, .cons h r => ⟨by simp [(RepF.split r).1], .cons h (RepF.split r).2⟩
theorem insOf_ok {K : PySem.W.Frag} {S : Wd} {m : Mu} {d : D} {v : V} {C : Addr} {ns : List Str} {ds : List D} (sa : Sta K S m) (r : Rep K S.i S.F d v) (h : insOf m d = some (C, ns, ds)) :
    ∃ a dx vs, v = .ref a ∧ S.H a = some (.ins C dx vs) ∧ vs.map (·.1) = ns ∧ Reps K S.i S.F ds (vs.map (·.2)) := by
  cases r with
  | obj h1 h2 h3 => cases h; exact ⟨_, _, _, rfl, sa.sub _ _ h1, h2, h3⟩
  | @loc n a h1 =>
    unfold insOf at h
    dsimp only at h
    split at h
    · rename_i C' fs e
      cases h
      obtain ⟨dx, vs, q1, q2⟩ := sa.ok n a _ h1 e
      exact ⟨a, dx, vs, rfl, q1, q2.split.1, q2.split.2⟩
    · cases h
  | _ => cases h
/-- the i-th name is f, and none ahead -/
theorem lookup_at {α : Type} {f : Str} : ∀ {vs : List (Str × α)} {i : Nat} {v : α}, (vs.map (·.1))[i]? = some f → f ∉ (vs.map (·.1)).take i → (vs.map (·.2))[i]? = some v → vs.lookup f = some v
  | [], _, _, h, _, _ => by simp at h
  | (g, x) :: r, 0, v, h, _, h3 => by
    simp at h h3; subst h; subst h3
    simp [List.lookup_cons]
  | (g, x) :: r, i + 1, v, h, h2, h3 => by
    have hne : f ≠ g := by
      intro e; subst e
      exact h2 (by simp)
    rw [List.lookup_cons]
    have : (f == g) = false := by simpa using hne
    rw [this]
    refine lookup_at (i := i) (by simpa using h) (fun z => h2 ?_) (by simpa using h3)
    simp only [List.map_cons, List.take_succ_cons]
    exact List.mem_cons_of_mem _ z
theorem lookup_not {α : Type} {f : Str} : ∀ {vs : List (Str × α)}, f ∉ vs.map (·.1) → vs.lookup f = none
  | [], _ => rfl
  | (g, x) :: r, h => by
    have hne : f ≠ g := fun e => h (by subst e; simp)
    rw [List.lookup_cons]
    have : (f == g) = false := by simpa using hne
    rw [this]
    exact lookup_not fun z => h (by simp only [List.map_cons]; exact List.mem_cons_of_mem _ z)
/-- e.f, for each class the place of f -/
def fldAt (rows : List (Kl × Nat)) (C : Addr) (ns : List Str) (ds : List D) : Option D := match rows with
  | [] => none
  | (c, i) :: rest => if C = c.a ∧ ns = c.ns then ds[i]? else fldAt rest C ns ds
def dFld (rows : List (Kl × Nat)) (t : DE) : DE := fun e m => (t e m).bind fun d m1 => match insOf m1 d with
  | some (C, ns, ds) => match fldAt rows C ns ds with
    | some x => .ok x m1
    | none => .stuck
  | none => .stuck
structure FldOk (K : PySem.W.Frag) (f : Str) (c : Kl) (i : Nat) : Prop where
  cl : Cls K c.a
  no : NoAttr K c.a f
  at_ : c.ns[i]? = some f
  fst : f ∉ c.ns.take i
theorem fldAt_ok {K : PySem.W.Frag} {f : Str} : ∀ {rows : List (Kl × Nat)} {C : Addr} {ns : List Str} {ds : List D} {d : D}, (∀ r ∈ rows, FldOk K f r.1 r.2) → fldAt rows C ns ds = some d → ∃ c i, FldOk K f c i ∧ C = c.a ∧ ns = c.ns ∧ ds[i]? = some d
  | [], _, _, _, _, _, h => by cases h
  | (c, i) :: rest, C, ns, ds, d, hr, h => by
    unfold fldAt at h
    split at h
    · rename_i e
      exact ⟨c, i, hr _ List.mem_cons_self, e.1, e.2, h⟩
    · exact fldAt_ok (fun r hm => hr r (List.mem_cons_of_mem _ hm)) h
theorem pd_fld {f : Str} {rows : List (Kl × Nat)} (he : PDE X o to) (hrows : ∀ r ∈ rows, FldOk X.K f r.1 r.2) (hb : attributeBase o f X.env (eval o X.env) = eval o X.env := by rfl) : PDE X (.Attribute o f pos) (dFld rows to) := by
  refine pd_of (pe_fld (mxE X o) hb) fun S r m σ Q sa re p => ?_
  refine he S r m σ _ sa re (Post.bindI p fun d m1 v T st sa1 rd q => ?_)
  split at q
  · rename_i C ns ds e
    split at q
    · rename_i x ex
      obtain ⟨c, i, ok, rfl, rfl, hx⟩ := fldAt_ok hrows ex
      obtain ⟨a, dx, vs, rfl, h1, h2, h3⟩ := insOf_ok sa1 rd e
      obtain ⟨y, hy, ry⟩ := h3.get hx
      exact ⟨a, c.a, dx, vs, y, rfl, h1, ok.cl, ok.no, lookup_at (by rw [h2]; exact ok.at_) (by rw [h2]; exact ok.fst) hy, Post.ok q (Stp.refl T) sa1 ry⟩
    · exact q.elim
  · exact q.elim
end
end DL

namespace DL
open PySem PySem.Spec PyProof.Rows L2
variable [LamTab]

/-- the written arguments, then the defaults -/
def padF (n : Nat) (dds : List D) (G : DFn) : DFn := fun ds m => if (ds ++ dds).length = n then G (ds ++ dds) m else .stuck
section
variable (P : Program) (w : World) (K : PySem.W.Frag) (mg : Str → Option Value) (base : Heap)
/-- a def by its global name -/
structure FT (k : Nat) (x : Str) (G : DFn) : Prop where
  ex : ∃ (f : Addr) (fd : FuncData) (ps : List Str) (dds : List D) (G0 : DFn), mg x = some (.ref f) ∧ PySem.W.keepIn K (.ref f) = true ∧ FnD P w K mg base k f fd ps G0 ∧ Bd K fd ps dds ∧ G = padF ps.length dds G0
/-- a method of the class at C -/
structure MT (k : Nat) (mn : Str) (C : Addr) (G : DFn) : Prop where
  ex : ∃ (f : Addr) (fd : FuncData) (ps : List Str) (dds : List D) (G0 : DFn), PySem.W.findIn K (.ref C) mn = some (some (.ref f)) ∧ PySem.W.isFn K (.ref f) = true ∧ PySem.W.keepIn K (.ref f) = true ∧ FnD P w K mg base k f fd ps G0 ∧ Bd K fd ps dds ∧ G = padF ps.length dds G0
end
section
variable {X : Cx}
/-- a call at some depth below -/
theorem run_fnA {k : Nat} {f : Addr} {fd : FuncData} {ps : List Str} {G : DFn} {dds : List D} {A : Around} {pins : List (Addr × Obj)} {σ : L2.St} {S : Wd} {m : Mu} {s : Shared} {Q : VK} {us : List Value} {vs : List V} {das : List D} (F : FnD X.prog X.w X.K X.mg X.base k f fd ps G) (hr : Room k A) (hb : Bd X.K fd ps dds)
    (hA : A.frames = X.A.frames) (I : Inv X pins σ S.H s) (sa : Sta X.K S m) (r : Reps X.K S.i S.F das vs) (rv : Vals vs us) (h : PostD X.K S (padF ps.length dds G das m) Q (fun c d H => Fly X c d σ H)) : wpAny (model X.prog X.w) A (call (.ref f) us) (EP X pins σ Q) X.xe s := by
  unfold padF at h
  split at h
  · rename_i hl
    obtain ⟨ds, dvs, hb, hd, hD⟩ := hb.ex
    have r1 : Reps X.K S.i S.F (das ++ dds) (vs ++ dvs) := r.append (hD _ _)
    have r2 : Vals (vs ++ dvs) (us ++ ds) := rv.append hd
    have hlv : (vs ++ dvs).length = ps.length := by rw [← r1.len]; exact hl
    have hl2 : (us ++ ds).length = ps.length := by rw [← r2.length]; exact hlv
    have e0 := I.env0
    have e1 : Env0 X.prog X.w X.K X.mg X.base A X.stack s S.H := ⟨hA.trans e0.frames, e0.mod, e0.bs, e0.bsz, e0.funs, e0.frf, e0.hok, e0.bare⟩
    refine wpAny_call (codeAny_mono (F.run A X.stack s S.H ⟨us, []⟩ (us ++ ds) (vs ++ dvs) Q (fun c d H => Fly X c d σ H) hr e1 (hb s us I.kIn hl2) r2 ⟨hlv, S, m, _, rfl, sa, r1, h⟩) fun r s' hq => ?_)
    cases r with
    | error e =>
      obtain ⟨a, B, sI, pins', σ', H', cls, d, e1, I', nb, up, sky, na, os, ag, e2, fl⟩ := XE.of_call I (W := fun c d σ' H => σ' = σ ∧ Fly X c d σ H) (fun cls d H' h => ⟨rfl, h⟩) hq
      exact fl e s' ⟨a, B, sI, pins', σ', H', cls, d, e1, I', nb, up, sky, na, os, ag, rfl, rfl, e2, rfl⟩
    | ok fl =>
      cases fl with
      | ret u => exact I.after hq
      | next => exact False.elim hq
      | brk => exact False.elim hq
      | cont => exact False.elim hq
  · exact h.elim
theorem in1_frames (A : Around) : A.in1.frames = A.frames := rfl
def dFun (G : DFn) (t : DA) : DE := fun e m => (t e m).bind G
variable {k : Nat} {G : DFn} {x mn : Str} {p pos apos : Pos} {e o : Expr} {es : List Expr} {t : DA} {to ta tb : DE}
theorem pd_fun (F : FT X.prog X.w X.K X.mg X.base k x G) (hr : Room k X.A) (ha : PDA X (e :: es) t)
    (hg : Gl X x := by rfl) (hdb : (x == ("__debug__" : Str)) = false := by decide) (he : starEach (e :: es) X.env = (false, eval e X.env) :: starEach es X.env := by exact se_cons _ _ _ rfl) (hpl : (backTo pos (starEach es X.env)).any (·.1) = false := by exact se_any _ _ _ rfl) :
    PDE X (.Call (.Name x p) (e :: es) [] pos) (dFun G t) := by
  obtain ⟨f, fd, ps, dds, G0, hm, hk, hf, hb, rfl⟩ := F.ex
  intro S r m σ Q sa re q pins s I
  refine wpAny_Call_Name_kw (ld_glob I hg hm ?_ hdb)
  refine PySem.W.callWith_K (h₀ := X.base) I.ok.mod.kin hk (thn (ha.run sa re q I pos) ?_) he hpl
  rintro us s1 ⟨xs, ds, m1, T, st, sa1, rds, rv, I1, q1⟩
  exact ⟨I1.kIn, run_fnA hf hr hb rfl I1 sa1 rds rv q1⟩
theorem pd_fun0 (F : FT X.prog X.w X.K X.mg X.base k x G) (hr : Room k X.A)
    (hg : Gl X x := by rfl) (hdb : (x == ("__debug__" : Str)) = false := by decide) : PDE X (.Call (.Name x p) [] [] pos) (dFun G dNil) := by
  obtain ⟨f, fd, ps, dds, G0, hm, hk, hf, hb, rfl⟩ := F.ex
  intro S r m σ Q sa re q pins s I
  refine wpAny_Call_Name_kw (ld_glob I hg hm ?_ hdb)
  exact PySem.W.callWith_K0 I.kIn hk (run_fnA (us := []) hf hr hb rfl I sa .nil .nil q)

/-! ### methods -/
def methAt (rows : List (Kl × DFn)) (C : Addr) (ns : List Str) : Option DFn := match rows with
  | [] => none
  | (c, G) :: rest => if C = c.a ∧ ns = c.ns then some G else methAt rest C ns
theorem methAt_ok {P : Kl → DFn → Prop} : ∀ {rows : List (Kl × DFn)} {C : Addr} {ns : List Str} {G : DFn}, (∀ r ∈ rows, P r.1 r.2) → methAt rows C ns = some G → ∃ c, P c G ∧ C = c.a ∧ ns = c.ns
  | [], _, _, _, _, h => by cases h
  | (c, i) :: rest, C, ns, d, hr, h => by
    unfold methAt at h
    split at h
    · rename_i e
      cases h
      exact ⟨c, hr _ List.mem_cons_self, e.1, e.2⟩
    · exact methAt_ok (fun r hm => hr r (List.mem_cons_of_mem _ hm)) h
/-- o.m(..), for each class its method -/
def dMeth (rows : List (Kl × DFn)) (to : DE) (t : DA) : DE := fun e m => (to e m).bind fun o m1 => match insOf m1 o with
  | some (C, ns, _) => match methAt rows C ns with
    | some G => (t e m1).bind fun ds m2 => G (o :: ds) m2
    | none => .stuck
  | none => .stuck
structure MethOk (P : Program) (w : World) (K : PySem.W.Frag) (mg : Str → Option Value) (base : Heap) (k : Nat) (mn : Str) (c : Kl) (G : DFn) : Prop where
  cl : Cls K c.a
  mt : MT P w K mg base k mn c.a G
  no : mn ∉ c.ns
theorem pd_meth {rows : List (Kl × DFn)} {pl : Sem Bool} (he : PDE X o to) (hrows : ∀ r ∈ rows, MethOk X.prog X.w X.K X.mg X.base k mn r.1 r.2) (hr : Room k X.A) (ha : PDA X (e :: es) t)
    (hst : starEach (e :: es) X.env = (false, eval e X.env) :: starEach es X.env := by exact se_cons _ _ _ rfl) (hpl : (backTo pos (starEach es X.env)).any (·.1) = false := by exact se_any _ _ _ rfl)
    (ht : eval (.Call (.Attribute o mn apos) (e :: es) [] pos) X.env = (do
      let ov ← eval o X.env
      standAt apos.atName
      let (f, first) ← holding [ov] (getMethod ov mn pl)
      callWith pos f first (backTo pos (starEach (e :: es) X.env)) (backToKw pos (keywordEach [] X.env))) := by rfl) :
    PDE X (.Call (.Attribute o mn apos) (e :: es) [] pos) (dMeth rows to t) := by
  intro S r m σ Q sa re q pins s I
  refine PySem.W.methodCall_KW (pl := pl) (thn (he.run sa re q I) ?_) ht
  rintro u s1 ⟨x, d, m1, T, st, sa1, rd, rx, I1, q1⟩
  split at q1
  · rename_i C ns ds ei
    split at q1
    · rename_i G eG
      obtain ⟨c, ok, rfl, rfl⟩ := methAt_ok (P := MethOk X.prog X.w X.K X.mg X.base k mn) hrows eG
      obtain ⟨a, dx, vs, rfl, h1, h2, h3⟩ := insOf_ok sa1 rd ei
      obtain ⟨f, fd, ps, dds, G0, hf1, hf2, hk, hf, hb, rfl⟩ := ok.mt.ex
      obtain rfl : u = Value.ref a := rx
      refine getmeth_ok I1 h1 ok.cl ⟨hf1, hf2, hk⟩ (lookup_not (by rw [h2]; exact ok.no)) ?_
      refine PySem.W.callWith_K (first := [.ref a]) (h₀ := X.base) I.ok.mod.kin hk (thn (ha.run sa1 (re.stp st) q1 I1 pos) ?_) hst hpl
      rintro us s2 ⟨xs, das, m2, U, st2, sa2, rds, rv, I2, q2⟩
      exact ⟨I2.kIn, run_fnA (us := .ref a :: us) hf hr hb rfl I2 sa2 (.cons (rd.stp st2) rds) (.cons rfl rv) q2⟩
    · exact (show False from q1).elim
  · exact (show False from q1).elim
theorem pd_meth0 {rows : List (Kl × DFn)} {pl : Sem Bool} (he : PDE X o to) (hrows : ∀ r ∈ rows, MethOk X.prog X.w X.K X.mg X.base k mn r.1 r.2) (hr : Room k X.A)
    (ht : eval (.Call (.Attribute o mn apos) [] [] pos) X.env = (do
      let ov ← eval o X.env
      standAt apos.atName
      let (f, first) ← holding [ov] (getMethod ov mn pl)
      callWith pos f first (backTo pos (starEach [] X.env)) (backToKw pos (keywordEach [] X.env))) := by rfl) :
    PDE X (.Call (.Attribute o mn apos) [] [] pos) (dMeth rows to dNil) := by
  intro S r m σ Q sa re q pins s I
  refine PySem.W.methodCall_KW (pl := pl) (thn (he.run sa re q I) ?_) ht
  rintro u s1 ⟨x, d, m1, T, st, sa1, rd, rx, I1, q1⟩
  split at q1
  · rename_i C ns ds ei
    split at q1
    · rename_i G eG
      obtain ⟨c, ok, rfl, rfl⟩ := methAt_ok (P := MethOk X.prog X.w X.K X.mg X.base k mn) hrows eG
      obtain ⟨a, dx, vs, rfl, h1, h2, h3⟩ := insOf_ok sa1 rd ei
      obtain ⟨f, fd, ps, dds, G0, hf1, hf2, hk, hf, hb, rfl⟩ := ok.mt.ex
      obtain rfl : u = Value.ref a := rx
      refine getmeth_ok I1 h1 ok.cl ⟨hf1, hf2, hk⟩ (lookup_not (by rw [h2]; exact ok.no)) ?_
      exact PySem.W.callWith_K0 (first := [.ref a]) I1.kIn hk (run_fnA (us := [.ref a]) hf hr hb rfl I1 sa1 (.cons rd .nil) (.cons rfl .nil) q1)
    · exact (show False from q1).elim
  · exact (show False from q1).elim

/-! ### properties -/
structure PropOk (P : Program) (w : World) (K : PySem.W.Frag) (mg : Str → Option Value) (base : Heap) (k : Nat) (f : Str) (c : Kl) (G : DFn) : Prop where
  cl : Cls K c.a
  ex : ∃ (p g : Addr) (fd : FuncData) (ps : List Str) (G0 : DFn), PropOf K c.a f p g ∧ FnD P w K mg base k g fd ps G0 ∧ Bd K fd ps [] ∧ G = padF ps.length [] G0
def noExc (r : Res D) : Res D := match r with
  | .ok d m => .ok d m
  | _ => .stuck
def dProp (rows : List (Kl × DFn)) (to : DE) : DE := fun e m => (to e m).bind fun o m1 => match insOf m1 o with
  | some (C, ns, _) => match methAt rows C ns with
    | some G => noExc (G [o] m1)
    | none => .stuck
  | none => .stuck
theorem pd_prop {f : Str} {rows : List (Kl × DFn)} (he : PDE X o to) (hrows : ∀ r ∈ rows, PropOk X.prog X.w X.K X.mg X.base k f r.1 r.2) (hr : Room (k + 1) X.A) (hab : attributeBase o f X.env (eval o X.env) = eval o X.env := by rfl) :
    PDE X (.Attribute o f pos) (dProp rows to) := by
  intro S r m σ Q sa re q pins s I
  refine attr_of hab (thn (he.run sa re q I) ?_)
  rintro u s1 ⟨x, d, m1, T, st, sa1, rd, rx, I1, q1⟩
  split at q1
  · rename_i C ns ds ei
    split at q1
    · rename_i G eG
      obtain ⟨c, ok, rfl, rfl⟩ := methAt_ok (P := PropOk X.prog X.w X.K X.mg X.base k f) hrows eG
      obtain ⟨a, dx, vs, rfl, h1, h2, h3⟩ := insOf_ok sa1 rd ei
      obtain ⟨pp, g, fd, ps, G0, hp, hf, hb, rfl⟩ := ok.ex
      obtain rfl : u = Value.ref a := rx
      unfold padF at q1
      split at q1
      · rename_i hl
        have hl' : [d].length = ps.length := by simpa using hl
        cases hG : G0 ([d] ++ []) m1 with
        | stuck => rw [hG] at q1; exact (show False from q1).elim
        | exc C fs m2 => rw [hG] at q1; exact (show False from q1).elim
        | ok dv m2 =>
          rw [hG] at q1
          obtain ⟨ds', dvs, hb1, hd1, hD⟩ := hb.ex
          have hnil : dvs = [] := by
            have := hD [] (fun _ => none)
            cases this; rfl
          subst hnil
          cases hd1
          refine getprop_ok (sp := spD X.K ps.length G0) (E := E0) I1 h1 ok.cl hp hf hr hb1 .nil passL ⟨by simpa using hl', T, m1, [d], rfl, sa1, .cons rd .nil, ?_⟩
          rw [show ([d] : List D) = [d] ++ [] from rfl, hG]
          exact q1
      · exact (show False from q1).elim
    · exact (show False from q1).elim
  · exact (show False from q1).elim

/-! ### operators of own classes -/
theorem Inv.inst {pins : List (Addr × Obj)} {σ : L2.St} {H : Hp} {s : Shared} {a C dx : Addr} {fs : List (Str × V)} (I : Inv X pins σ H s) (e : H a = some (.ins C dx fs)) : ∃ od, PySem.W.InstAt s.heap a (PySem.W.instObj C dx) C (some od) := by
  obtain ⟨mA, O, _, _, _, _⟩ := ins_get I.hok e
  obtain ⟨od, J, _⟩ := O.look
  exact ⟨od, J⟩
theorem cmpBack_of {Q : Value → Shared → Prop} {pins : List (Addr × Obj)} {σ : L2.St} {Q' : VK} {v : Value} {s : Shared} (h : EP X pins σ Q' v s) (k : EP X pins σ Q' v s → Q v s) : PySem.W.CmpBack Q v s := by
  obtain ⟨y, H, I, r, q⟩ := id h
  cases y with
  | non => cases r; exact k h
  | bl b => cases r; exact k h
  | int i => obtain ⟨t, rfl⟩ := r; exact k h
  | str i => obtain ⟨t, rfl⟩ := r; exact k h
  | byt i => obtain ⟨t, rfl⟩ := r; exact k h
  | flt i => obtain ⟨t, rfl⟩ := r; exact k h
  | ref a => cases r; exact k h
  | ty n => cases r; exact k h
/-- a op b, both of the class at C, by its method -/
def dOwn2 (C : Addr) (G : DFn) : D2 := fun x y m => match insOf m x, insOf m y with
  | some (C1, _, _), some (C2, _, _) => if C1 = C ∧ C2 = C then G [x, y] m else .stuck
  | _, _ => .stuck
theorem od_own {op : Operator} {C : Addr} {G : DFn} (hm : MT X.prog X.w X.K X.mg X.base k (PySem.dunder op.info.2) C G) (hc : PySem.W.selfFirst X.K C = true) (hr : Room k X.A) : OD X (binaryOp op) (dOwn2 C G) := by
  intro pins s σ S m x y vx vy u w Q sa rx ry I hu hw p
  unfold dOwn2 at p
  split at p
  · rename_i C1 n1 d1 C2 n2 d2 e1 e2
    split at p
    · rename_i hC
      obtain ⟨rfl, rfl⟩ := hC
      obtain ⟨a, dx, vs, rfl, h1, _, _⟩ := insOf_ok sa rx e1
      obtain ⟨b, dy, ws, rfl, h2, _, _⟩ := insOf_ok sa ry e2
      obtain rfl : u = Value.ref a := hu
      obtain rfl : w = Value.ref b := hw
      obtain ⟨f, fd, ps, dds, G0, hf1, hf2, hk, hf, hb, rfl⟩ := hm.ex
      obtain ⟨od1, J1⟩ := Inv.inst I h1
      obtain ⟨od2, J2⟩ := Inv.inst I h2
      obtain ⟨mm, F⟩ := I.fr
      refine PySem.W.binop_K F I.ok.mod.kin J1 J2.type hc hf1 hf2 (thn (run_fnA (us := [.ref a, .ref b]) hf hr hb rfl I sa (.cons rx (.cons ry .nil)) (.cons rfl (.cons rfl .nil)) p) fun v s1 h => cmpBack_of h fun h => h)
    · exact p.elim
  · exact p.elim
/-- -a of the class at C -/
def dNeg (C : Addr) (G : DFn) (t : DE) : DE := fun e m => (t e m).bind fun x m1 => match x with
  | .int i => .ok (.int (-i)) m1
  | _ => match insOf m1 x with
    | some (C1, _, _) => if C1 = C then G [x] m1 else .stuck
    | none => .stuck
theorem pd_neg {C : Addr} {G : DFn} (ha : PDE X o ta) (hm : MT X.prog X.w X.K X.mg X.base k "__neg__" C G) (hr : Room k X.A) : PDE X (.UnaryOp .USub o pos) (dNeg C G ta) := by
  intro S r m σ Q sa re q pins s I
  refine UnaryOp_ (thn (ha.run sa re q I) ?_)
  rintro u s1 ⟨x, d, m1, T, st, sa1, rd, rx, I1, q1⟩
  split at q1
  · cases rd
    exact un_neg pins s1 σ T.H _ u Q I1 rx ⟨_, rfl, Post.ok q1 (Stp.refl T) sa1 (.int _)⟩
  · split at q1
    · rename_i C1 n1 d1 e1
      split at q1
      · rename_i hC
        subst hC
        obtain ⟨a, dx, vs, rfl, h1, _, _⟩ := insOf_ok sa1 rd e1
        obtain rfl : u = Value.ref a := rx
        obtain ⟨f, fd, ps, dds, G0, hf1, hf2, hk, hf, hb, rfl⟩ := hm.ex
        obtain ⟨od1, J1⟩ := Inv.inst I1 h1
        obtain ⟨mm, F⟩ := I1.fr
        exact PySem.W.ksp_neg F I1.ok.mod.kin J1 hf1 hf2 (run_fnA (us := [.ref a]) hf hr hb rfl I1 sa1 (.cons rd .nil) (.cons rfl .nil) q1)
      · exact (show False from q1).elim
    · exact (show False from q1).elim
/-- -a of an int -/
def dNegI (t : DE) : DE := fun e m => (t e m).bind fun x m1 => match x with
  | .int i => .ok (.int (-i)) m1
  | _ => .stuck
theorem pd_negI (ha : PDE X o ta) : PDE X (.UnaryOp .USub o pos) (dNegI ta) := by
  refine pd_of (pe_un un_neg (mxE X o)) fun S r m σ Q sa re p => ?_
  refine ha S r m σ _ sa re (Post.bindI p fun d m1 v T st sa1 rd q => ?_)
  cases rd with
  | int i => exact ⟨i, rfl, Post.ok q (Stp.refl T) sa1 (.int _)⟩
  | _ => exact q.elim
end
end DL

namespace DL
open PySem PySem.Spec PyProof.Rows L2
variable [LamTab]
section
variable {X : Cx}
/-! ### numbers, texts, lists: operators -/
def gI2 (C : Int → Int → Bool) (k : Int → Int → D) : D2 := fun x y m => match x with
  | .int i => match y with
    | .int j => if C i j then .ok (k i j) m else .stuck
    | _ => .stuck
  | _ => .stuck
theorem od_i2 {f : Value → Value → Sem Value} {C : Int → Int → Bool} {C' : Int → Int → Prop} {k : Int → Int → D} {k' : Int → Int → V} (ho : OpR X f (rI C' k')) (hC : ∀ i j, C i j = true → C' i j) (hk : ∀ K i F a b, Rep K i F (k a b) (k' a b)) : OD X f (gI2 C k) := by
  refine od_of ho fun S m x y vx vy Q W sa rx ry p => ?_
  unfold gI2 at p
  cases rx with
  | int i =>
    cases ry with
    | int j =>
      dsimp only at p
      split at p
      · rename_i hc
        exact ⟨i, j, rfl, rfl, hC i j hc, Post.ok p (Stp.refl S) sa (hk _ _ _ i j)⟩
      · exact p.elim
    | _ => exact p.elim
  | _ => exact p.elim
def gI0 (k : Int → Int → D) : D2 := fun x y m => match x with
  | .int i => match y with
    | .int j => .ok (k i j) m
    | _ => .stuck
  | _ => .stuck
theorem od_i0 {f : Value → Value → Sem Value} {k : Int → Int → D} {k' : Int → Int → V} (ho : OpR X f (rI0 k')) (hk : ∀ K i F a b, Rep K i F (k a b) (k' a b)) : OD X f (gI0 k) := by
  refine od_of ho fun S m x y vx vy Q W sa rx ry p => ?_
  unfold gI0 at p
  cases rx with
  | int i =>
    cases ry with
    | int j => exact ⟨i, j, rfl, rfl, Post.ok p (Stp.refl S) sa (hk _ _ _ i j)⟩
    | _ => exact p.elim
  | _ => exact p.elim
abbrev gAdd : D2 := gI0 fun i j => .int (i + j)
abbrev gSub : D2 := gI0 fun i j => .int (i - j)
def mulOk (i j : Int) : Bool := decide (i.natAbs.log2 + j.natAbs.log2 < 1000000)
def divOk (_ j : Int) : Bool := decide (j ≠ 0 ∧ j.natAbs.log2 < 9000)
abbrev gMul : D2 := gI2 mulOk fun i j => .int (i * j)
abbrev gDiv : D2 := gI2 divOk fun i j => .int (i.fdiv j)
abbrev gMod : D2 := gI2 (fun _ j => decide (0 < j)) fun i j => .int (i % j)
def powOk (i j : Int) : Bool := decide (0 ≤ j ∧ j ≤ 1000000 ∧ i.natAbs < 2 ^ 64)
abbrev gPow : D2 := gI2 powOk fun i j => .int (i ^ j.toNat)
theorem od_add : OD X (binaryOp .Add) gAdd := od_i0 op_add fun _ _ _ _ _ => .int _
theorem od_sub : OD X (binaryOp .Sub) gSub := od_i0 op_sub fun _ _ _ _ _ => .int _
theorem od_mul : OD X (binaryOp .Mult) gMul := od_i2 op_mulW (fun i j h => (of_decide_eq_true h : i.natAbs.log2 + j.natAbs.log2 < 1000000)) fun _ _ _ _ _ => .int _
theorem op_fdivX : OpR X (binaryOp .FloorDiv) (rI (fun _ j => j ≠ 0 ∧ j.natAbs.log2 < 9000) fun i j => .int (i.fdiv j)) := opI fun i j _ _ _ _ _ hc q =>
  floordiv_int hc.1 q (.inl (PyProof.noPylong_of_log2 hc.2))
theorem od_div : OD X (binaryOp .FloorDiv) gDiv := od_i2 op_fdivX (fun _ _ h => of_decide_eq_true h) fun _ _ _ _ _ => .int _
theorem od_mod : OD X (binaryOp .Mod) gMod := od_i2 op_mod (fun _ _ h => of_decide_eq_true h) fun _ _ _ _ _ => .int _
theorem od_pow : OD X (binaryOp .Pow) gPow := od_i2 op_pow (fun i j h => (of_decide_eq_true h : 0 ≤ j ∧ j ≤ 1000000 ∧ i.natAbs < 2 ^ 64)) fun _ _ _ _ _ => .int _
abbrev gLt : D2 := gI0 fun i j => .bl (decide (i < j))
abbrev gLe : D2 := gI0 fun i j => .bl (decide (i ≤ j))
abbrev gGt : D2 := gI0 fun i j => .bl (decide (j < i))
abbrev gGe : D2 := gI0 fun i j => .bl (decide (j ≤ i))
theorem od_lt : OD X (compareOp .Lt) gLt := od_i0 op_lt fun _ _ _ _ _ => .bl _
theorem od_le : OD X (compareOp .LtE) gLe := od_i0 op_le fun _ _ _ _ _ => .bl _
theorem od_gt : OD X (compareOp .Gt) gGt := od_i0 op_gt fun _ _ _ _ _ => .bl _
theorem od_ge : OD X (compareOp .GtE) gGe := od_i0 op_ge fun _ _ _ _ _ => .bl _
/-- texts joined; lists joined (a new one that is never changed) -/
def gAddS : D2 := fun x y m => match x with
  | .str a => match y with
    | .str b => if a.length + b.length ≤ sizeLine then .ok (.str (a ++ b)) m else .stuck
    | _ => .stuck
  | _ => .stuck
theorem od_addS : OD X (binaryOp .Add) gAddS := by
  refine od_of op_add_str fun S m x y vx vy Q W sa rx ry p => ?_
  unfold gAddS at p
  cases rx with
  | str i =>
    cases ry with
    | str j =>
      dsimp only at p
      split at p
      · rename_i hc
        exact ⟨i, j, rfl, rfl, hc, Post.ok p (Stp.refl S) sa (.str _)⟩
      · exact p.elim
    | _ => exact p.elim
  | _ => exact p.elim
/-! ### is None -/
def gIsN : D2 := fun x y m => match y with
  | .non => match x with
    | .non => .ok (.bl true) m
    | .val _ => .stuck
    | _ => .ok (.bl false) m
  | _ => .stuck
def gNotN : D2 := fun x y m => match y with
  | .non => match x with
    | .non => .ok (.bl false) m
    | .val _ => .stuck
    | _ => .ok (.bl true) m
  | _ => .stuck
theorem od_isN : OD X (compareOp .Is) gIsN := by
  refine od_of op_isN fun S m x y vx vy Q W sa rx ry p => ?_
  unfold gIsN at p
  cases ry with
  | non =>
    refine ⟨rfl, ?_⟩
    cases rx with
    | val v => exact p.elim
    | non => exact Post.ok p (Stp.refl S) sa (.bl true)
    | _ => exact Post.ok p (Stp.refl S) sa (.bl false)
  | _ => exact p.elim
theorem od_notN : OD X (compareOp .IsNot) gNotN := by
  refine od_of op_notN fun S m x y vx vy Q W sa rx ry p => ?_
  unfold gNotN at p
  cases ry with
  | non =>
    refine ⟨rfl, ?_⟩
    cases rx with
    | val v => exact p.elim
    | non => exact Post.ok p (Stp.refl S) sa (.bl false)
    | _ => exact Post.ok p (Stp.refl S) sa (.bl true)
  | _ => exact p.elim
/-! ### == -/
mutual
def toPy : D → Option PyData
  | .non => some .none
  | .bl b => some (.bool b)
  | .int i => some (.int i)
  | .str x => some (.str x)
  | .lst ds => (toPys ds).map .list
  | .tup ds => (toPys ds).map .tuple
  | _ => none
def toPys : List D → Option (List PyData)
  | [] => some []
  | d :: ds => match toPy d with
    | some p => match toPys ds with
      | some ps => some (p :: ps)
      | none => none
    | none => none
end
mutual
theorem toPy_ok {K : PySem.W.Frag} {S : Wd} {m : Mu} (sa : Sta K S m) : ∀ (d : D) {v : V} {p : PyData}, Rep K S.i S.F d v → toPy d = some p → Dp K S.H v p
  | .non, _, _, r, h => by cases r; cases h; exact .non
  | .bl b, _, _, r, h => by cases r; cases h; exact .bl _
  | .int b, _, _, r, h => by cases r; cases h; exact .int _
  | .str b, _, _, r, h => by cases r; cases h; exact .str _
  | .lst ds, _, _, r, h => by
    cases r with
    | lst h1 h2 =>
      unfold toPy at h
      cases q : toPys ds with
      | none => rw [q] at h; cases h
      | some ps => rw [q] at h; cases h; exact .lst (SqL.ext' h1 sa.sub) (toPys_ok sa ds h2 q)
  | .tup ds, _, _, r, h => by
    cases r with
    | tup h1 h2 =>
      unfold toPy at h
      cases q : toPys ds with
      | none => rw [q] at h; cases h
      | some ps => rw [q] at h; cases h; exact .tup (SqT.ext' h1 sa.sub) (toPys_ok sa ds h2 q)
  | .obj _ _, _, _, r, h => by unfold toPy at h; cases h
  | .loc _, _, _, r, h => by unfold toPy at h; cases h
  | .val _, _, _, r, h => by unfold toPy at h; cases h
theorem toPys_ok {K : PySem.W.Frag} {S : Wd} {m : Mu} (sa : Sta K S m) : ∀ (ds : List D) {vs : List V} {ps : List PyData}, Reps K S.i S.F ds vs → toPys ds = some ps → DpAll K S.H vs ps
  | [], _, _, r, h => by cases r; cases h; exact .nil
  | d :: ds, _, _, r, h => by
    cases r with
    | cons h1 h2 =>
      unfold toPys at h
      cases q : toPy d with
      | none => rw [q] at h; cases h
      | some p =>
        cases q2 : toPys ds with
        | none => rw [q, q2] at h; cases h
        | some ps => rw [q, q2] at h; cases h; exact .cons (toPy_ok sa d h1 q) (toPys_ok sa ds h2 q2)
end
/-- a list of the store as data -/
def thaw1 (m : Mu) (d : D) : D := match seqL m d with
  | some ds => .lst ds
  | none => d
def pyOf (m : Mu) (d : D) : Option PyData := toPy (thaw1 m d)
theorem pyOf_ok {K : PySem.W.Frag} {S : Wd} {m : Mu} {d : D} {v : V} {p : PyData} (sa : Sta K S m) (r : Rep K S.i S.F d v) (h : pyOf m d = some p) : Dp K S.H v p := by
  unfold pyOf thaw1 at h
  cases q : seqL m d with
  | none => rw [q] at h; exact toPy_ok sa d r h
  | some ds =>
    rw [q] at h
    obtain ⟨a, xs, rfl, h1, h2⟩ := seqL_ok sa r q
    dsimp only at h
    unfold toPy at h
    cases q2 : toPys ds with
    | none => rw [q2] at h; cases h
    | some ps => rw [q2] at h; cases h; exact .lst h1 (toPys_ok sa ds h2 q2)
def gEqD (neg : Bool) : D2 := fun x y m => match pyOf m x, pyOf m y with
  | some d, some e => if SeqAt.shaped d && SeqAt.shaped e then .ok (.bl (neg ^^ PyData.eqv d e)) m else .stuck
  | _, _ => .stuck
theorem od_eqD (hu : X.A.units + 64 < cLine) : OD X (compareOp .Eq) (gEqD false) := by
  refine od_of (op_eqD hu) fun S m x y vx vy Q W sa rx ry p => ?_
  unfold gEqD at p
  split at p
  · rename_i d e e1 e2
    split at p
    · rename_i hs
      obtain ⟨h1, h2⟩ := Bool.and_eq_true_iff.mp hs
      refine ⟨d, e, pyOf_ok sa rx e1, pyOf_ok sa ry e2, h1, h2, ?_⟩
      rw [Bool.false_xor] at p
      exact Post.ok p (Stp.refl S) sa (.bl _)
    · exact p.elim
  · exact p.elim
theorem od_neD (hu : X.A.units + 64 < cLine) : OD X (compareOp .NotEq) (gEqD true) := by
  refine od_of (op_neD hu) fun S m x y vx vy Q W sa rx ry p => ?_
  unfold gEqD at p
  split at p
  · rename_i d e e1 e2
    split at p
    · rename_i hs
      obtain ⟨h1, h2⟩ := Bool.and_eq_true_iff.mp hs
      refine ⟨d, e, pyOf_ok sa rx e1, pyOf_ok sa ry e2, h1, h2, ?_⟩
      rw [Bool.true_xor] at p
      exact Post.ok p (Stp.refl S) sa (.bl _)
    · exact p.elim
  · exact p.elim
/-- scalars of one kind, and None beside them -/
def scEq : D → D → Option Bool
  | .non, .non => some true
  | .int i, .int j => some (decide (i = j))
  | .bl i, .bl j => some (i == j)
  | .str i, .str j => some (decide (i = j))
  | .non, .int _ => some false
  | .int _, .non => some false
  | .non, .bl _ => some false
  | .bl _, .non => some false
  | .non, .str _ => some false
  | .str _, .non => some false
  | .int _, .str _ => some false
  | .str _, .int _ => some false
  | .bl _, .str _ => some false
  | .str _, .bl _ => some false
  | _, _ => none
theorem scEq_ok {K : PySem.W.Frag} {i : List Addr} {F : Hp} {x y : D} {vx vy : V} {b : Bool} (rx : Rep K i F x vx) (ry : Rep K i F y vy) (h : scEq x y = some b) : scal vx vy = true ∧ decide (vx = vy) = b := by
  cases rx <;> cases ry <;> first
    | (cases h; exact ⟨rfl, rfl⟩)
    | (cases h; refine ⟨rfl, ?_⟩; first | exact dec_bl | simp)
    | (simp [scEq] at h)
def gEqS (neg : Bool) : D2 := fun x y m => match scEq x y with
  | some b => .ok (.bl (neg ^^ b)) m
  | none => .stuck
theorem od_eqS : OD X (compareOp .Eq) (gEqS false) := by
  refine od_of op_eq fun S m x y vx vy Q W sa rx ry p => ?_
  unfold gEqS at p
  split at p
  · rename_i b e
    obtain ⟨h1, h2⟩ := scEq_ok rx ry e
    refine ⟨h1, ?_⟩
    rw [h2]
    rw [Bool.false_xor] at p
    exact Post.ok p (Stp.refl S) sa (.bl _)
  · exact p.elim
theorem od_neS : OD X (compareOp .NotEq) (gEqS true) := by
  refine od_of op_ne fun S m x y vx vy Q W sa rx ry p => ?_
  unfold gEqS at p
  split at p
  · rename_i b e
    obtain ⟨h1, h2⟩ := scEq_ok rx ry e
    refine ⟨h1, ?_⟩
    rw [h2]
    rw [Bool.true_xor] at p
    exact Post.ok p (Stp.refl S) sa (.bl _)
  · exact p.elim
def gEq : D2 := orD (gEqS false) (gEqD false)
def gNe : D2 := orD (gEqS true) (gEqD true)
theorem od_eq (hu : X.A.units + 64 < cLine) : OD X (compareOp .Eq) gEq := od_or od_eqS (od_eqD hu)
theorem od_ne (hu : X.A.units + 64 < cLine) : OD X (compareOp .NotEq) gNe := od_or od_neS (od_neD hu)
/-! ### in -/
def toV : D → Option V
  | .non => some .non
  | .bl b => some (.bl b)
  | .int b => some (.int b)
  | .str b => some (.str b)
  | _ => none
def toVs : List D → Option (List V)
  | [] => some []
  | d :: ds => match toV d with
    | some v => match toVs ds with
      | some vs => some (v :: vs)
      | none => none
    | none => none
theorem toV_ok {K : PySem.W.Frag} {i : List Addr} {F : Hp} {x : D} {vx v : V} (rx : Rep K i F x vx) (h : toV x = some v) : vx = v ∧ flatV v = true := by
  cases rx <;> first | (cases h; exact ⟨rfl, rfl⟩) | (simp [toV] at h)
theorem toVs_ok {K : PySem.W.Frag} {i : List Addr} {F : Hp} : ∀ {xs : List D} {vx vs : List V}, Reps K i F xs vx → toVs xs = some vs → vx = vs ∧ vs.all flatV = true
  | [], _, _, r, h => by cases r; cases h; exact ⟨rfl, rfl⟩
  | d :: ds, _, _, r, h => by
    cases r with
    | cons h1 h2 =>
      unfold toVs at h
      cases q : toV d with
      | none => rw [q] at h; cases h
      | some p =>
        cases q2 : toVs ds with
        | none => rw [q, q2] at h; cases h
        | some ps =>
          rw [q, q2] at h; cases h
          obtain ⟨e1, e2⟩ := toV_ok h1 q
          obtain ⟨e3, e4⟩ := toVs_ok h2 q2
          subst e1 e3
          exact ⟨rfl, by rw [List.all_cons, e2, e4]; rfl⟩
def seqA (m : Mu) (d : D) : Option (List D) := match seqL m d with
  | some ds => some ds
  | none => seqT d
theorem seqA_ok {K : PySem.W.Frag} {S : Wd} {m : Mu} {d : D} {v : V} {ds : List D} (sa : Sta K S m) (r : Rep K S.i S.F d v) (h : seqA m d = some ds) : ∃ a xs, v = .ref a ∧ (SqL K S.H a xs ∨ SqT K S.H a xs) ∧ Reps K S.i S.F ds xs := by
  unfold seqA at h
  split at h
  · rename_i e
    cases h
    obtain ⟨a, xs, h1, h2, h3⟩ := seqL_ok sa r e
    exact ⟨a, xs, h1, .inl h2, h3⟩
  · obtain ⟨a, xs, h1, h2, h3⟩ := seqT_ok sa r h
    exact ⟨a, xs, h1, .inr h2, h3⟩
/-- x in a list or tuple of scalars -/
def gInQ (neg : Bool) : D2 := fun x y m => match toV x, (seqA m y).bind toVs with
  | some v, some vs => .ok (.bl (neg ^^ inV v vs)) m
  | _, _ => .stuck
theorem gInQ_ok {neg : Bool} {K : PySem.W.Frag} {S : Wd} {m : Mu} {x y : D} {vx vy : V} {Q : VK} {W : XK} (sa : Sta K S m) (rx : Rep K S.i S.F x vx) (ry : Rep K S.i S.F y vy) (p : PostD K S (gInQ neg x y m) Q W) : rIn K neg vx vy S.H Q := by
  unfold gInQ at p
  split at p
  · rename_i v vs e1 e2
    obtain ⟨h1, h2⟩ := toV_ok rx e1
    subst h1
    cases q : seqA m y with
    | none => rw [q] at e2; cases e2
    | some ds =>
      rw [q] at e2
      obtain ⟨a, xs, h3, h4, h5⟩ := seqA_ok sa ry q
      obtain ⟨h6, h7⟩ := toVs_ok h5 e2
      subst h6
      refine ⟨a, xs, h3, h4, h2, h7, ?_⟩
      cases neg with
      | false => rw [Bool.false_xor] at p; exact Post.ok p (Stp.refl S) sa (.bl _)
      | true => rw [Bool.true_xor] at p; exact Post.ok p (Stp.refl S) sa (.bl _)
  · exact p.elim
theorem od_inQ : OD X (compareOp .In) (gInQ false) := od_of op_in_seq fun S m x y vx vy Q W sa rx ry p => gInQ_ok sa rx ry p
theorem od_notInQ : OD X (compareOp .NotIn) (gInQ true) := od_of op_notIn_seq fun S m x y vx vy Q W sa rx ry p => gInQ_ok sa rx ry p
/-- a text in a text -/
def occurs (i j : Str) : Bool := !(Builtin.Str.occurrences j i 0 j.length 1).isEmpty
def gInS (neg : Bool) : D2 := fun x y m => match x with
  | .str a => match y with
    | .str b => .ok (.bl (neg ^^ occurs a b)) m
    | _ => .stuck
  | _ => .stuck
theorem od_inS : OD X (compareOp .In) (gInS false) := by
  refine od_of op_in_str fun S m x y vx vy Q W sa rx ry p => ?_
  unfold gInS at p
  cases rx with
  | str i =>
    cases ry with
    | str j =>
      dsimp only at p
      rw [Bool.false_xor] at p
      exact ⟨i, j, rfl, rfl, Post.ok p (Stp.refl S) sa (.bl _)⟩
    | _ => exact p.elim
  | _ => exact p.elim
theorem od_notInS : OD X (compareOp .NotIn) (gInS true) := by
  refine od_of op_notin_str fun S m x y vx vy Q W sa rx ry p => ?_
  unfold gInS at p
  cases rx with
  | str i =>
    cases ry with
    | str j =>
      dsimp only at p
      rw [Bool.true_xor] at p
      exact ⟨i, j, rfl, rfl, Post.ok p (Stp.refl S) sa (.bl _)⟩
    | _ => exact p.elim
  | _ => exact p.elim
abbrev gIn : D2 := orD (gInS false) (gInQ false)
abbrev gNotIn : D2 := orD (gInS true) (gInQ true)
theorem od_in : OD X (compareOp .In) gIn := od_or od_inS od_inQ
theorem od_notIn : OD X (compareOp .NotIn) gNotIn := od_or od_notInS od_notInQ

/-! ### calls of built-ins by values -/
def OC (X : Cx) (f : Value) (g : DFn) : Prop :=
  ∀ (pins : List (Addr × Obj)) (s : Shared) (σ : L2.St) (S : Wd) (m : Mu) (ds : List D) (xs : List V) (us : List Value) (Q : VK), Sta X.K S m → Reps X.K S.i S.F ds xs → Vals xs us → Inv X pins σ S.H s →
    PostD X.K S (g ds m) Q (fun c d H => Fly X c d σ H) → wpAny (model X.prog X.w) X.A (call f us) (EP X pins σ Q) X.xe s
theorem oc_of {f : Value} {g : DFn} {r : List V → Hp → VK → Prop} (ho : CallR X f r) (k : ∀ (S : Wd) (m : Mu) (ds : List D) (xs : List V) (Q : VK) (W : XK), Sta X.K S m → Reps X.K S.i S.F ds xs → PostD X.K S (g ds m) Q W → r xs S.H Q) : OC X f g :=
  fun pins s σ S m ds xs us Q sa rs rv I p => ho pins s σ S.H xs us Q I rv (k S m ds xs Q _ sa rs p)
def orF (f g : DFn) : DFn := fun ds m => match f ds m with
  | .stuck => g ds m
  | r => r
theorem oc_or {f : Value} {g h : DFn} (a : OC X f g) (b : OC X f h) : OC X f (orF g h) := by
  intro pins s σ S m ds xs us Q sa rs rv I p
  unfold orF at p
  split at p
  · exact b pins s σ S m ds xs us Q sa rs rv I p
  · exact a pins s σ S m ds xs us Q sa rs rv I p
variable {x : Str} {p pos : Pos} {e : Expr} {es : List Expr} {t : DA} {id T : String} {g : DFn}
theorem pd_bc (ho : OC X (.builtin id) g) (hm : X.mg x = none) (hv : bootBuiltins x = some (.builtin id)) (ha : PDA X (e :: es) t) (hg : Gl X x := by rfl) (hn : x ≠ "__name__" := by decide) (hdb : (x == ("__debug__" : Str)) = false := by decide)
    (he : starEach (e :: es) X.env = (false, eval e X.env) :: starEach es X.env := by exact se_cons _ _ _ rfl) (hpl : (backTo pos (starEach es X.env)).any (·.1) = false := by exact se_any _ _ _ rfl) : PDE X (.Call (.Name x p) (e :: es) [] pos) (dFun g t) := by
  intro S r m σ Q sa re q pins s I
  refine wpAny_Call_Name_kw (ld_blt I hg hm hv ?_ hn hdb)
  refine PyProof.Rows.callWith_builtin1 (thn (ha.run sa re q I pos) ?_) he hpl
  rintro us s1 ⟨xs, ds, m1, T, st, sa1, rds, rv, I1, q1⟩
  exact ho pins s1 σ T m1 ds xs us Q sa1 rds rv I1 q1
theorem pd_bt (ho : OC X (.type T) g) (hm : X.mg x = none) (hv : bootBuiltins x = some (.type T)) (ha : PDA X (e :: es) t) (hg : Gl X x := by rfl) (hn : x ≠ "__name__" := by decide) (hdb : (x == ("__debug__" : Str)) = false := by decide)
    (he : starEach (e :: es) X.env = (false, eval e X.env) :: starEach es X.env := by exact se_cons _ _ _ rfl) (hpl : (backTo pos (starEach es X.env)).any (·.1) = false := by exact se_any _ _ _ rfl) : PDE X (.Call (.Name x p) (e :: es) [] pos) (dFun g t) := by
  intro S r m σ Q sa re q pins s I
  refine wpAny_Call_Name_kw (ld_blt I hg hm hv ?_ hn hdb)
  refine PyProof.Rows.callWith_type1 (thn (ha.run sa re q I pos) ?_) he hpl
  rintro us s1 ⟨xs, ds, m1, T, st, sa1, rds, rv, I1, q1⟩
  exact ho pins s1 σ T m1 ds xs us Q sa1 rds rv I1 q1
theorem reps1 {K : PySem.W.Frag} {i : List Addr} {F : Hp} {d : D} {xs : List V} (r : Reps K i F [d] xs) : ∃ v, xs = [v] ∧ Rep K i F d v := by
  cases r with
  | cons h r => cases r; exact ⟨_, rfl, h⟩
theorem reps2 {K : PySem.W.Frag} {i : List Addr} {F : Hp} {d e : D} {xs : List V} (r : Reps K i F [d, e] xs) : ∃ v w, xs = [v, w] ∧ Rep K i F d v ∧ Rep K i F e w := by
  cases r with
  | cons h r => obtain ⟨w, rfl, h2⟩ := reps1 r; exact ⟨_, w, rfl, h, h2⟩
def gAbs : DFn := fun ds m => match ds with
  | [.int i] => .ok (.int (if i < 0 then -i else i)) m
  | _ => .stuck
theorem oc_abs : OC X (.builtin "abs") gAbs := by
  refine oc_of call_abs fun S m ds xs Q W sa rs p => ?_
  unfold gAbs at p
  split at p
  · obtain ⟨v, rfl, r⟩ := reps1 rs
    cases r
    exact ⟨_, rfl, Post.ok p (Stp.refl S) sa (.int _)⟩
  · exact p.elim
def gInt : DFn := fun ds m => match ds with
  | [.int i] => .ok (.int i) m
  | [.bl b] => .ok (.int (if b then 1 else 0)) m
  | _ => .stuck
theorem oc_int : OC X (.type "int") gInt := by
  refine oc_of call_int1 fun S m ds xs Q W sa rs p => ?_
  unfold gInt at p
  split at p
  · obtain ⟨v, rfl, r⟩ := reps1 rs
    cases r
    exact .inl ⟨_, rfl, Post.ok p (Stp.refl S) sa (.int _)⟩
  · obtain ⟨v, rfl, r⟩ := reps1 rs
    cases r
    exact .inr ⟨_, rfl, Post.ok p (Stp.refl S) sa (.int _)⟩
  · exact p.elim
def gBool : DFn := fun ds m => match ds with
  | [.int i] => .ok (.bl (i != 0)) m
  | [.bl b] => .ok (.bl b) m
  | _ => .stuck
theorem oc_bool : OC X (.type "bool") gBool := by
  refine oc_of call_bool1 fun S m ds xs Q W sa rs p => ?_
  unfold gBool at p
  split at p
  · obtain ⟨v, rfl, r⟩ := reps1 rs
    cases r
    exact .inl ⟨_, rfl, Post.ok p (Stp.refl S) sa (.bl _)⟩
  · obtain ⟨v, rfl, r⟩ := reps1 rs
    cases r
    exact .inr ⟨_, rfl, Post.ok p (Stp.refl S) sa (.bl _)⟩
  · exact p.elim
def gMin2 : DFn := fun ds m => match ds with
  | [.int i, .int j] => .ok (.int (if j < i then j else i)) m
  | _ => .stuck
theorem oc_min2 (hc : X.calm = true) : OC X (.builtin "min") gMin2 := by
  refine oc_of (call_min2 hc) fun S m ds xs Q W sa rs p => ?_
  unfold gMin2 at p
  split at p
  · obtain ⟨v, w, rfl, r, r2⟩ := reps2 rs
    cases r; cases r2
    exact ⟨_, _, rfl, Post.ok p (Stp.refl S) sa (.int _)⟩
  · exact p.elim
def gMax2 : DFn := fun ds m => match ds with
  | [.int i, .int j] => .ok (.int (if j > i then j else i)) m
  | _ => .stuck
theorem oc_max2 (hc : X.calm = true) : OC X (.builtin "max") gMax2 := by
  refine oc_of (call_max2 hc) fun S m ds xs Q W sa rs p => ?_
  unfold gMax2 at p
  split at p
  · obtain ⟨v, w, rfl, r, r2⟩ := reps2 rs
    cases r; cases r2
    exact ⟨_, _, rfl, Post.ok p (Stp.refl S) sa (.int _)⟩
  · exact p.elim
def gStrI : DFn := fun ds m => match ds with
  | [.int i] => if i.natAbs.log2 < 1920 then .ok (.str (toString i)) m else .stuck
  | _ => .stuck
theorem oc_strI : OC X (.type "str") gStrI := by
  refine oc_of call_str_int fun S m ds xs Q W sa rs p => ?_
  unfold gStrI at p
  split at p
  · split at p
    · rename_i h
      obtain ⟨v, rfl, r⟩ := reps1 rs
      cases r
      exact ⟨_, rfl, h, Post.ok p (Stp.refl S) sa (.str _)⟩
    · exact p.elim
  · exact p.elim
def gLen : DFn := fun ds m => match ds with
  | [.str x] => if x.length ≤ sizeLine then .ok (.int x.length) m else .stuck
  | [d] => match seqA m d with
    | some ds => .ok (.int ds.length) m
    | none => .stuck
  | _ => .stuck
theorem oc_len : OC X (.builtin "len") gLen := by
  refine oc_of (call_len_str.or call_len_seq) fun S m ds xs Q W sa rs p => ?_
  unfold gLen at p
  split at p
  · split at p
    · rename_i h
      obtain ⟨v, rfl, r⟩ := reps1 rs
      cases r
      exact .inl ⟨_, rfl, h, Post.ok p (Stp.refl S) sa (.int _)⟩
    · exact p.elim
  · split at p
    · rename_i ds' e
      obtain ⟨v, rfl, r⟩ := reps1 rs
      obtain ⟨a, ys, rfl, h1, h2⟩ := seqA_ok sa r e
      refine .inr ⟨a, ys, rfl, h1, ?_⟩
      rw [h2.len] at p
      exact Post.ok p (Stp.refl S) sa (.int _)
    · exact p.elim
  · exact p.elim
/-- list(xs): a new one, never changed -/
def gList : DFn := fun ds m => match ds with
  | [d] => match seqA m d with
    | some es => .ok (.lst es) m
    | none => .stuck
  | _ => .stuck
theorem oc_list : OC X (.type "list") gList := by
  refine oc_of call_list_of fun S m ds xs Q W sa rs p => ?_
  unfold gList at p
  split at p
  · split at p
    · rename_i es e
      obtain ⟨v, rfl, r⟩ := reps1 rs
      obtain ⟨a, ys, rfl, h1, h2⟩ := seqA_ok sa r e
      refine ⟨a, ys, rfl, h1, fun l hl => ?_⟩
      have st := Stp.new sa (o := .lst ys) hl
      exact p (.ref l) (S.new l (.lst ys)) st (sa.new hl) (.lst (.inl (.inl upd_same)) (h2.stp st))
    · exact p.elim
  · exact p.elim
/-- list(xs): one of the store -/
def gListM : DFn := fun ds m => match ds with
  | [d] => match seqA m d with
    | some es => .ok (.loc m.length) (m ++ [.lst es])
    | none => .stuck
  | _ => .stuck
theorem oc_listM : OC X (.type "list") gListM := by
  refine oc_of call_list_of fun S m ds xs Q W sa rs p => ?_
  unfold gListM at p
  split at p
  · split at p
    · rename_i es e
      obtain ⟨v, rfl, r⟩ := reps1 rs
      obtain ⟨a, ys, rfl, h1, h2⟩ := seqA_ok sa r e
      refine ⟨a, ys, rfl, h1, fun l hl => ?_⟩
      have st := Stp.tok sa (o := .lst ys) hl
      refine p (.ref l) (S.tok l (.lst ys)) st (sa.tok hl (q := .lst es) ⟨ys, upd_same, h2.stp st⟩) (.loc ?_)
      show (S.i ++ [l])[m.length]? = some l
      rw [← sa.len, List.getElem?_append_right (Nat.le_refl _), Nat.sub_self]
      rfl
    · exact p.elim
  · exact p.elim
def toBs : List D → Option (List Bool)
  | [] => some []
  | .bl b :: ds => match toBs ds with
    | some bs => some (b :: bs)
    | none => none
  | _ => none
theorem toBs_ok {K : PySem.W.Frag} {i : List Addr} {F : Hp} : ∀ {ds : List D} {xs : List V} {bs : List Bool}, Reps K i F ds xs → toBs ds = some bs → xs = bs.map V.bl
  | [], _, _, r, h => by cases r; cases h; rfl
  | d :: ds, _, _, r, h => by
    cases r with
    | cons h1 h2 =>
      cases h1 with
      | bl b =>
        unfold toBs at h
        cases q : toBs ds with
        | none => rw [q] at h; cases h
        | some bs => rw [q] at h; cases h; rw [toBs_ok h2 q]; rfl
      | _ => simp [toBs] at h
def gAll : DFn := fun ds m => match ds with
  | [d] => match (seqL m d).bind toBs with
    | some bs => .ok (.bl (bs.all _root_.id)) m
    | none => .stuck
  | _ => .stuck
def gAny : DFn := fun ds m => match ds with
  | [d] => match (seqL m d).bind toBs with
    | some bs => .ok (.bl (bs.any _root_.id)) m
    | none => .stuck
  | _ => .stuck
theorem oc_all (hc : X.calm = true) : OC X (.builtin "all") gAll := by
  refine oc_of (cr_all hc) fun S m ds xs Q W sa rs p => ?_
  unfold gAll at p
  split at p
  · rename_i d
    cases q : seqL m d with
    | none => rw [q] at p; exact (show False from p).elim
    | some es =>
      rw [q] at p
      cases q2 : toBs es with
      | none => rw [show (some es).bind toBs = toBs es from rfl, q2] at p; exact (show False from p).elim
      | some bs =>
        rw [show (some es).bind toBs = toBs es from rfl, q2] at p
        obtain ⟨v, rfl, r⟩ := reps1 rs
        obtain ⟨a, ys, rfl, h1, h2⟩ := seqL_ok sa r q
        have := toBs_ok h2 q2
        subst this
        exact ⟨a, bs, rfl, h1, Post.ok p (Stp.refl S) sa (.bl _)⟩
  · exact p.elim
theorem oc_any (hc : X.calm = true) : OC X (.builtin "any") gAny := by
  refine oc_of (cr_any hc) fun S m ds xs Q W sa rs p => ?_
  unfold gAny at p
  split at p
  · rename_i d
    cases q : seqL m d with
    | none => rw [q] at p; exact (show False from p).elim
    | some es =>
      rw [q] at p
      cases q2 : toBs es with
      | none => rw [show (some es).bind toBs = toBs es from rfl, q2] at p; exact (show False from p).elim
      | some bs =>
        rw [show (some es).bind toBs = toBs es from rfl, q2] at p
        obtain ⟨v, rfl, r⟩ := reps1 rs
        obtain ⟨a, ys, rfl, h1, h2⟩ := seqL_ok sa r q
        have := toBs_ok h2 q2
        subst this
        exact ⟨a, bs, rfl, h1, Post.ok p (Stp.refl S) sa (.bl _)⟩
  · exact p.elim
def toIs : List D → Option (List Int)
  | [] => some []
  | .int b :: ds => match toIs ds with
    | some bs => some (b :: bs)
    | none => none
  | _ => none
theorem toIs_ok {K : PySem.W.Frag} {i : List Addr} {F : Hp} : ∀ {ds : List D} {xs : List V} {bs : List Int}, Reps K i F ds xs → toIs ds = some bs → xs = bs.map V.int
  | [], _, _, r, h => by cases r; cases h; rfl
  | d :: ds, _, _, r, h => by
    cases r with
    | cons h1 h2 =>
      cases h1 with
      | int b =>
        unfold toIs at h
        cases q : toIs ds with
        | none => rw [q] at h; cases h
        | some bs => rw [q] at h; cases h; rw [toIs_ok h2 q]; rfl
      | _ => simp [toIs] at h
def minI : List Int → Int
  | [] => 0
  | x :: xs => xs.foldl min x
def maxI : List Int → Int
  | [] => 0
  | x :: xs => xs.foldl max x
end
end DL

namespace DL
open PySem PySem.Spec PyProof.Rows L2
variable [LamTab]
section
variable {X : Cx}
/-! ### subscripts, slices -/
def gIx : D2 := fun x i m => match i with
  | .int i => match x with
    | .str z => if z.length ≤ sizeLine then (match atI z.cps.toList i with
      | some c => .ok (.str ⟨#[c]⟩) m
      | none => .stuck) else .stuck
    | x => match seqA m x with
      | some ds => match atI ds i with
        | some d => .ok d m
        | none => .stuck
      | none => .stuck
  | _ => .stuck
theorem atI_reps {K : PySem.W.Frag} {ι : List Addr} {F : Hp} {ds : List D} {xs : List V} {i : Int} {d : D} (r : Reps K ι F ds xs) (h : atI ds i = some d) : ∃ v, atI xs i = some v ∧ Rep K ι F d v := by
  unfold atI at h ⊢
  rw [← r.len]
  cases q : ixN ds.length i with
  | none => rw [q] at h; cases h
  | some j => rw [q] at h; exact r.get h
variable {a b e : Expr} {es : List Expr} {ta tb : DE} {t : DA} {pos : Pos}
theorem pd_ix (ha : PDE X a ta) (hb : PDE X b tb) (hs : PlainIx b := by exact fun _ _ => rfl) : PDE X (.Subscript a b pos) (dBin gIx ta tb) := by
  intro S r m σ Q sa re p pins s I
  refine Subscript_ (thn (ha.run sa re p I) ?_)
  rintro v s1 ⟨x, d, m1, T, st, sa1, rd, r1, I1, q⟩
  refine thn (hb.run sa1 (re.stp st) q I1) ?_
  rintro u s2 ⟨y, d', m2, U, st2, sa2, rd2, r2, I2, q2⟩
  refine ix_seq a b pins s2 σ U.H x y v u Q I2 r1 r2 ?_ (hs _ _)
  unfold gIx at q2
  split at q2
  · cases rd2
    split at q2
    · cases (rd.stp st2)
      split at q2
      · rename_i hz
        split at q2
        · rename_i c ec
          exact .inr (.inr ⟨_, _, c, rfl, rfl, hz, ec, Post.ok q2 (Stp.refl U) sa2 (.str _)⟩)
        · exact q2.elim
      · exact q2.elim
    · split at q2
      · rename_i ds e1
        split at q2
        · rename_i dd e2
          obtain ⟨p, xs, rfl, h1, h2⟩ := seqA_ok sa2 (rd.stp st2) e1
          obtain ⟨vv, h3, h4⟩ := atI_reps h2 e2
          rcases h1 with h1 | h1
          · exact .inl ⟨p, xs, _, vv, rfl, rfl, h1, h3, Post.ok q2 (Stp.refl U) sa2 h4⟩
          · exact .inr (.inl ⟨p, xs, _, vv, rfl, rfl, h1, h3, Post.ok q2 (Stp.refl U) sa2 h4⟩)
        · exact q2.elim
      · exact q2.elim
  · exact q2.elim
/-- a part of a slice -/
abbrev DO := En → Mu → Res (Option Int)
abbrev RO : Wd → Option Int → Option Int → Prop := fun _ a b => a = b
def WO (X : Cx) (e : Option Expr) : TO := fun σ H Q => ∀ (pins : List (Addr × Obj)) (s : Shared) (u : TO), PO X e u → u σ H Q → True
def PDO (X : Cx) (e : Option Expr) (t : DO) : Prop := ∃ u : TO, PO X e u ∧ ∀ S r m σ Q, Sta X.K S m → RelE X.K S r σ → Post RO X.K S (t r m) Q (fun c d H => Fly X c d σ H) → u σ S.H Q
def dNoPart : DO := fun _ m => .ok none m
def dPart (t : DE) : DO := fun e m => (t e m).bind fun d m1 => match d with
  | .int i => .ok (some i) m1
  | _ => .stuck
theorem pdo_none : PDO X none dNoPart := ⟨_, po_none, fun S r m σ Q sa re p => Post.ok p (Stp.refl S) sa rfl⟩
theorem pdo_some (h : PDE X e ta) : PDO X (some e) (dPart ta) := ⟨_, po_some (mxE X e), fun S r m σ Q sa re p => by
  refine h S r m σ _ sa re (Post.bindI p fun d m1 v T st sa1 rd q => ?_)
  cases rd with
  | int i => exact ⟨i, rfl, Post.ok q (Stp.refl T) sa1 rfl⟩
  | _ => exact q.elim⟩
def cutD (xs : List D) (lo hi : Option Int) : List D := (xs.drop (HT.sIx xs.length 0 lo)).take (HT.sIx xs.length xs.length hi - HT.sIx xs.length 0 lo)
theorem cut_reps {K : PySem.W.Frag} {ι : List Addr} {F : Hp} {ds : List D} {xs : List V} (r : Reps K ι F ds xs) (lo hi : Option Int) : Reps K ι F (cutD ds lo hi) (cutV xs lo hi) := by
  unfold cutD cutV
  rw [r.len]
  exact (r.drop _).take _
/-- a slice of a list: a new list, never changed -/
def dSl (t : DE) (lo hi : DO) : DE := fun e m => (t e m).bind fun d m1 => (lo e m1).bind fun l m2 => (hi e m2).bind fun h m3 => match seqL m3 d with
  | some ds => .ok (.lst (cutD ds l h)) m3
  | none => .stuck
theorem pd_sl {lo hi : Option Expr} {tl th : DO} {p2 : Pos} (ha : PDE X a ta) (hl : PDO X lo tl) (hh : PDO X hi th) : PDE X (.Subscript a (.Slice lo hi none p2) pos) (dSl ta tl th) := by
  obtain ⟨ul, hl1, hl2⟩ := hl
  obtain ⟨uh, hh1, hh2⟩ := hh
  refine pd_of (pe_slice sl_list (mxE X a) hl1 hh1) fun S r m σ Q sa re p => ?_
  refine ha S r m σ _ sa re (Post.bindI p fun d m1 v T st sa1 rd q => ?_)
  refine hl2 T r m1 σ _ sa1 (re.stp st) (Post.bindI q fun l m2 l' U st2 sa2 rl q2 => ?_)
  have rl : l = l' := rl
  subst rl
  refine hh2 U r m2 σ _ sa2 ((re.stp st).stp st2) (Post.bindI q2 fun h m3 h' Y st3 sa3 rh q3 => ?_)
  have rh : h = h' := rh
  subst rh
  split at q3
  · rename_i ds e1
    obtain ⟨p, xs, rfl, h1, h2⟩ := seqL_ok sa3 ((rd.stp st2).stp st3) e1
    refine ⟨p, xs, rfl, h1, fun n hn => ?_⟩
    have st4 := Stp.new sa3 (o := .lst (cutV xs l h)) hn
    exact q3 (.ref n) (Y.new n (.lst (cutV xs l h))) st4 (sa3.new hn) (.lst (.inl (.inl upd_same)) ((cut_reps h2 l h).stp st4))
  · exact q3.elim

/-! ### statements -/
theorem RelE.start {K : PySem.W.Frag} {S : Wd} {e : En} {σ : L2.St} (r : RelE K S e σ) : RelE K S e σ := r
def dSeq (t u : DS) : DS := fun e m => match t e m with
  | .nx e1 m1 => u e1 m1
  | r => r
def dSkip : DS := fun e m => .nx e m
variable {st : Stmt} {rest sts stt : List Stmt} {u w : DS} {tt : DT}
theorem pds_nil : PDSs X [] dSkip := fun S r m σ N sa re p pins s I => (pss_nil (X := X)).run pins s σ S.H N I (p σ S (Stp.refl S) sa re)
theorem pds_cons (h1 : PDS X st u) (h2 : PDSs X rest w) : PDSs X (st :: rest) (dSeq u w) := by
  intro S r m σ N sa re p pins s I
  refine (pss_cons (mxS X st) (mxSs X rest)).run pins s σ S.H N I ?_
  refine h1 S r m σ _ sa re ?_
  unfold dSeq at p
  cases q : u r m with
  | nx e1 m1 =>
    rw [q] at p
    exact fun σ1 T st1 sa1 re1 => h2 T e1 m1 σ1 N sa1 re1 (PostS.step st1 p)
  | stuck => rw [q] at p; exact p
  | rt d m1 => rw [q] at p; exact p
  | bk e1 m1 => rw [q] at p; exact p
  | ct e1 m1 => rw [q] at p; exact p
  | exc C fs e1 m1 => rw [q] at p; exact p
theorem pds_one (h1 : PDS X st u) : PDSs X [st] u := fun S r m σ N sa re p pins s I => (pss_one (mxS X st)).run pins s σ S.H N I (h1 S r m σ N sa re p)
/-- an expression's answer in a statement -/
def rsOf (e : En) (r : Res D) (k : D → Mu → RS) : RS := match r with
  | .stuck => .stuck
  | .ok d m => k d m
  | .exc C fs m => .exc C fs e m
theorem PDE.stm {S : Wd} {e : En} {r : Res D} {k : D → Mu → RS} {N : Ends} {σ : L2.St} (re : RelE X.K S e σ) (p : PostS X.K S (rsOf e r k) N (Fly X)) {Q : VK}
    (h : ∀ d m v T, Stp S T → Sta X.K T m → Rep X.K T.i T.F d v → PostS X.K T (k d m) N (Fly X) → Q v T.H) : PostD X.K S r Q (fun c d H => Fly X c d σ H) := by
  cases r with
  | stuck => exact p
  | ok d m => exact fun v T st sa rd => h d m v T st sa rd (PostS.step (r := k d m) st p)
  | exc C fs m => exact fun dd vs T st hn sa h1 h2 => p dd vs σ T st hn sa (re.stp st) h1 h2
def dRet (t : DE) : DS := fun e m => rsOf e (t e m) fun d m1 => .rt d m1
theorem pds_ret (ha : PDE X a ta) : PDS X (.Return (some a) pos) (dRet ta) :=
  ps_of (ps_ret (mxE X a)) fun S r m σ N sa re p => ha S r m σ _ sa re (PDE.stm re p fun d m1 v T st sa1 rd q => q v T (Stp.refl T) sa1 rd)
theorem pds_retN : PDS X (.Return none pos) (fun _ m => .rt .non m) := ps_of ps_retN fun S r m σ N sa re p => p .non S (Stp.refl S) sa .non
theorem pds_pass : PDS X (.Pass pos) dSkip := ps_of ps_pass fun S r m σ N sa re p => p σ S (Stp.refl S) sa re
theorem pds_break : PDS X (.Break pos) (fun e m => .bk e m) := ps_of ps_break fun S r m σ N sa re p => p σ S (Stp.refl S) sa re
theorem pds_continue : PDS X (.Continue pos) (fun e m => .ct e m) := ps_of ps_continue fun S r m σ N sa re p => p σ S (Stp.refl S) sa re
def dStuck : DS := fun _ _ => .stuck
theorem pds_stuck : PDS X st dStuck := fun S r m σ N sa re p => p.elim
def dDrop (t : DE) : DS := fun e m => rsOf e (t e m) fun _ m1 => .nx e m1
theorem pds_expr (ha : PDE X a ta) (hs : swapsWith a none pos.line X.env = pure false := by rfl) : PDS X (.Expr a pos) (dDrop ta) :=
  ps_of (ps_expr (mxE X a) hs) fun S r m σ N sa re p => ha S r m σ _ sa re (PDE.stm re p fun d m1 v T st sa1 rd q => q σ T (Stp.refl T) sa1 (re.stp st))
def dSet (i : Nat) (t : DE) : DS := fun e m => rsOf e (t e m) fun d m1 => .nx (e.set i (some d)) m1
theorem pds_set {i : Nat} {x : Str} {pos' : Pos} (ha : PDE X a ta) (hN : X.N.Nodup) (hi : X.N[i]? = some x := by rfl) (hx : Loc X.env.scope x := by first | exact Or.inl rfl | exact Or.inr rfl) (hs : swapsWith a (some (.Name x pos')) pos.line X.env = pure false := by rfl)
    (hf : X.fn x = true ∨ X.env.scope.names.lookup x = some .local := by first | exact .inl rfl | exact .inr rfl | assumption) : PDS X (.Assign [.Name x pos'] a pos) (dSet i ta) :=
  ps_of (ps_set hN hi hx (mxE X a) hs hf) fun S r m σ N sa re p => ha S r m σ _ sa re (PDE.stm re p fun d m1 v T st sa1 rd q => q _ T (Stp.refl T) sa1 ((re.stp st).set i rd))
def rsOfB (e : En) (r : Res Bool) (k : Bool → Mu → RS) : RS := match r with
  | .stuck => .stuck
  | .ok d m => k d m
  | .exc C fs m => .exc C fs e m
theorem PDT.stm {S : Wd} {e : En} {r : Res Bool} {k : Bool → Mu → RS} {N : Ends} {σ : L2.St} (re : RelE X.K S e σ) (p : PostS X.K S (rsOfB e r k) N (Fly X)) {Q : Bool → Hp → Prop}
    (h : ∀ d m T, Stp S T → Sta X.K T m → PostS X.K T (k d m) N (Fly X) → Q d T.H) : PostB X.K S r Q (fun c d H => Fly X c d σ H) := by
  cases r with
  | stuck => exact p
  | ok d m =>
    intro v T st sa rd
    cases (show d = v from rd)
    exact h d m T st sa (PostS.step (r := k d m) st p)
  | exc C fs m => exact fun dd vs T st hn sa h1 h2 => p dd vs σ T st hn sa (re.stp st) h1 h2
def dIfS (t : DT) (u w : DS) : DS := fun e m => rsOfB e (t e m) fun b m1 => if b then u e m1 else w e m1
theorem pds_if {c : Expr} (hc : PDT X c tt) (h1 : PDSs X sts u) (h2 : PDSs X stt w) : PDS X (.If c sts stt pos) (dIfS tt u w) := by
  refine ps_of (ps_if (mxT X c) (mxSs X sts) (mxSs X stt)) fun S r m σ N sa re p => hc S r m σ _ sa re (PDT.stm re p fun d m1 T st sa1 q => ?_)
  cases d with
  | true => exact iteT (h1 T r m1 σ N sa1 (re.stp st) q)
  | false => exact iteF (h2 T r m1 σ N sa1 (re.stp st) q)

/-! ### targets -/
abbrev DG := D → En → Option En
def WG (X : Cx) (tg : Expr) : TG := fun v σ H Q => ∀ (pins : List (Addr × Obj)) (s : Shared) (u : Value), Inv X pins σ H s → RelV v u → wpAny (model X.prog X.w) X.A (assign tg X.env u) (fun _ s' => ∃ σ' H', Inv X pins σ' H' s' ∧ Q σ' H') X.xe s
def WGs (X : Cx) (ts : List Expr) : TGs := fun vs σ H Q => ∀ (pins : List (Addr × Obj)) (s : Shared) (us : List Value), Inv X pins σ H s → Vals vs us → wpAny (model X.prog X.w) X.A (assignInOrder ((assignEach ts X.env).map (·.2)) us) (fun _ s' => ∃ σ' H', Inv X pins σ' H' s' ∧ Q σ' H') X.xe s
theorem mxG (X : Cx) (e : Expr) : PG X e (WG X e) := ⟨fun pins s σ H v u Q I r h => h pins s u I r⟩
theorem mxGs (X : Cx) (e : List Expr) : PGs X e (WGs X e) := ⟨fun pins s σ H v u Q I r h => h pins s u I r⟩
/-- but for these slots as before -/
def ButSl (sl : List Nat) (σ σ1 : L2.St) : Prop := ∀ vs : List Nat, (∀ i ∈ sl, i ∈ vs) → wipe σ1 vs = wipe σ vs
theorem wipe_set {σ : L2.St} {i : Nat} {x : Option V} : ∀ vs : List Nat, wipe (σ.set i x) vs = if i ∈ vs then wipe σ vs else (wipe σ vs).set i x
  | [] => by simp [wipe]
  | v :: vs => by
    have ih := wipe_set (σ := σ) (i := i) (x := x) vs
    unfold wipe
    rw [ih]
    by_cases hv : i ∈ vs
    · rw [if_pos hv, if_pos (List.mem_cons_of_mem _ hv)]
    · rw [if_neg hv]
      by_cases hi : i = v
      · subst hi
        rw [if_pos List.mem_cons_self, List.set_set]
      · rw [if_neg (by simp [hi, hv]), List.set_comm _ _ hi]
theorem butSl_set (σ : L2.St) (i : Nat) (x : Option V) : ButSl [i] σ (σ.set i x) := fun vs h => by rw [wipe_set, if_pos (h i (by simp))]
def PDG (X : Cx) (tg : Expr) (g : DG) (sl : List Nat) : Prop := ∀ S e m σ d v e1 (Q : L2.St → Hp → Prop), Sta X.K S m → RelE X.K S e σ → Rep X.K S.i S.F d v → g d e = some e1 → (∀ σ1, RelE X.K S e1 σ1 → ButSl sl σ σ1 → Q σ1 S.H) → WG X tg v σ S.H Q
def dName (i : Nat) : DG := fun d e => some (e.set i (some d))
theorem pdg_name (i : Nat) {x : Str} (hN : X.N.Nodup) (hi : X.N[i]? = some x := by rfl) (hx : Loc X.env.scope x := by first | exact Or.inl rfl | exact Or.inr rfl) (hf : X.fn x = true ∨ X.env.scope.names.lookup x = some .local := by first | exact .inl rfl | exact .inr rfl | assumption) : PDG X (.Name x pos) (dName i) [i] :=
  fun S e m σ d v e1 Q sa re rd h q pins s u I r => by
    cases h
    exact (pg_name hN hi hx hf).run pins s σ S.H v u Q I r (q _ (re.set i rd) (butSl_set σ i _))
def PDGs (X : Cx) (ts : List Expr) (g : List D → En → Option En) (sl : List Nat) : Prop := ∀ S e m σ ds vs e1 (Q : L2.St → Hp → Prop), Sta X.K S m → RelE X.K S e σ → Reps X.K S.i S.F ds vs → g ds e = some e1 → (∀ σ1, RelE X.K S e1 σ1 → ButSl sl σ σ1 → Q σ1 S.H) → WGs X ts vs σ S.H Q
def dGnil : List D → En → Option En := fun ds e => match ds with
  | [] => some e
  | _ => none
def dGcons (g : DG) (h : List D → En → Option En) : List D → En → Option En := fun ds e => match ds with
  | d :: r => (g d e).bind fun e1 => h r e1
  | [] => none
theorem pdgs_nil : PDGs X [] dGnil [] := fun S e m σ ds vs e1 Q sa re rd h q pins s us I r => by
  cases rd with
  | nil => cases h; exact (pgs_nil (X := X)).run pins s σ S.H [] us Q I r ⟨rfl, q σ re fun vs _ => rfl⟩
  | cons _ _ => cases h
theorem pdgs_cons {g : DG} {h : List D → En → Option En} {sl sl' : List Nat} (h1 : PDG X a g sl) (h2 : PDGs X es h sl') (hs : (assignEach (a :: es) X.env).map (·.2) = assign a X.env :: (assignEach es X.env).map (·.2) := by rfl) : PDGs X (a :: es) (dGcons g h) (sl ++ sl') := by
  intro S e m σ ds vs e1 Q sa re rd hh q pins s us I r
  cases rd with
  | nil => cases hh
  | @cons d v ds' vs' r1 r2 =>
    have hh : (g d e).bind (fun e1 => h ds' e1) = some e1 := hh
    cases q1 : g d e with
    | none => rw [q1] at hh; cases hh
    | some e2 =>
      rw [q1] at hh
      exact (pgs_cons (mxG X a) (mxGs X es) hs).run pins s σ S.H (v :: vs') us Q I r ⟨v, vs', rfl, h1 S e m σ d v e2 _ sa re r1 q1 fun σ1 re1 b1 => h2 S e2 m σ1 ds' vs' e1 _ sa re1 r2 hh fun σ2 re2 b2 => q σ2 re2 fun vs hv => (b2 vs fun i hi => hv i (List.mem_append_right _ hi)).trans (b1 vs fun i hi => hv i (List.mem_append_left _ hi))⟩
def dTupG (n : Nat) (g : List D → En → Option En) : DG := fun d e => match d with
  | .tup ds => if ds.length = n then g ds e else none
  | _ => none
theorem pdg_tup {n k : Nat} {g : List D → En → Option En} {sl : List Nat} (hc : X.calm = true) (h : PDGs X es g sl) (hn : (assignEach es X.env).length = n := by rfl) (hst : (assignEach es X.env).findIdx? (·.1) = none := by rfl) : PDG X (.Tuple es k pos) (dTupG n g) sl := by
  intro S e m σ d v e1 Q sa re rd hh q pins s u I r
  cases rd with
  | tup h1 h2 =>
    unfold dTupG at hh
    dsimp only at hh
    split at hh
    · rename_i hl
      exact (pg_tup hc (mxGs X es) hn hst).run pins s σ S.H _ u Q I r ⟨_, _, rfl, SqT.ext' h1 sa.sub, by rw [← h2.len]; exact hl, h S e m σ _ _ e1 Q sa re h2 hh q⟩
    · cases hh
  | _ => cases hh
def dAsg (t : DE) (g : DG) : DS := fun e m => rsOf e (t e m) fun d m1 => match g d e with
  | some e1 => .nx e1 m1
  | none => .stuck
theorem pds_asg {tg : Expr} {g : DG} {sl : List Nat} (ha : PDE X a ta) (hg : PDG X tg g sl) (hs : swapsWithSole [tg] a pos.line X.env = pure false := by rfl) (hw : swappedStores [tg] a X.env = pure none := by rfl)
    (h1 : (assignEach [tg] X.env).map (·.2) = [assign tg X.env] := by rfl) : PDS X (.Assign [tg] a pos) (dAsg ta g) := by
  refine ps_of (ps_asg (mxE X a) (mxG X tg) hs hw h1) fun S r m σ N sa re pp => ha S r m σ _ sa re (PDE.stm re pp fun d m1 v T st sa1 rd q => ?_)
  split at q
  · rename_i e1 h
    exact hg T r m1 σ d v e1 N.nx sa1 (re.stp st) rd h fun σ1 re1 _ => q σ1 T (Stp.refl T) sa1 re1
  · exact q.elim
/-- a, b = x, y with local names -/
def dPar (i j : Nat) (t : DA) : DS := fun e m => match t e m with
  | .ok [x, y] m1 => .nx ((e.set i (some x)).set j (some y)) m1
  | .exc C fs m1 => .exc C fs e m1
  | _ => .stuck
theorem pds_par {i j : Nat} {x y : Str} {px py pt : Pos} {kt k2 pt2} (ha : PDA X [a, b] t) (hc : X.calm = true) (hN : X.N.Nodup) (hw : swappedStores [.Tuple [.Name x px, .Name y py] kt pt] (.Tuple [a, b] k2 pt2) X.env = pure (some [x, y]) := by rfl) (hi : X.N[i]? = some x := by rfl) (hj : X.N[j]? = some y := by rfl) (hij : i ≠ j := by decide)
    (hx : X.env.scope.names.lookup x = some .local := by rfl) (hy : X.env.scope.names.lookup y = some .local := by rfl)
    (hs : swapsWithSole [.Tuple [.Name x px, .Name y py] kt pt] (.Tuple [a, b] k2 pt2) pos.line X.env = pure false := by rfl) :
    PDS X (.Assign [.Tuple [.Name x px, .Name y py] kt pt] (.Tuple [a, b] k2 pt2) pos) (dPar i j t) := by
  refine ps_of (ps_par hc hN hi hj hij hx hy (mxA X _) hw hs) fun S r m σ N sa re p => ha S r m σ _ sa re ?_
  unfold dPar at p
  cases q : t r m with
  | stuck => rw [q] at p; exact p
  | exc C fs m1 => rw [q] at p; exact fun dd vs T st hn sa1 h1 h2 => p dd vs σ T st hn sa1 (re.stp st) h1 h2
  | ok ds m1 =>
    rw [q] at p
    intro vs T st sa1 rds
    split at p
    · rename_i d1 d2 m2 heq
      cases heq
      obtain ⟨v, w, rfl, r1, r2⟩ := reps2 rds
      exact ⟨v, w, rfl, p _ T st sa1 (((re.stp st).set i r1).set j r2)⟩
    · rename_i heq; cases heq
    · exact p.elim
end
end DL

namespace DL
open PySem PySem.Spec PyProof.Rows L2
variable [LamTab]
/-! ### what a loop walks -/
def ItOk (K : PySem.W.Frag) (T : Wd) (J : It) (ds : List D) : Prop := ∀ (U : Wd) (m : Mu) (i : Nat), Stp T U → Sta K U m →
  (∀ d, ds[i]? = some d → J.go i U.H ∧ ∀ x H', J.yld i U.H x H' → ∃ Y : Wd, Y.H = H' ∧ Stp U Y ∧ Sta K Y m ∧ Rep K Y.i Y.F d x) ∧ (ds.length ≤ i → J.stop i U.H)
def PostI (K : PySem.W.Frag) (S : Wd) (r : Res (List D)) (R : It → Hp → Prop) (W : XK) : Prop := match r with
  | .stuck => False
  | .ok ds m => ∀ J T, Stp S T → Sta K T m → ItOk K T J ds → R J T.H
  | .exc C fs m => ∀ dd vs T, Stp S T → S.H dd = none → Sta K T m → T.H dd = some (.xd vs) → RepF K T.i T.F fs vs → W (.ref C) (some dd) T.H
def WI (X : Cx) (tg iter : Expr) : TI := fun σ H R => ∀ (pins : List (Addr × Obj)) (s : Shared), Inv X pins σ H s →
  wpAny (model X.prog X.w) X.A (eval iter X.env) (fun v s1 => wpAny (model X.prog X.w) X.A (pyIter v) (PIE X pins σ tg R) X.xe s1) X.xe s
theorem mxI (X : Cx) (tg iter : Expr) : PI X tg iter (WI X tg iter) := ⟨fun pins s σ H R I h => h pins s I⟩
def PDI (X : Cx) (tg iter : Expr) (t : DA) : Prop := ∀ S r m σ R, Sta X.K S m → RelE X.K S r σ → PostI X.K S (t r m) R (fun c d H => Fly X c d σ H) → WI X tg iter σ S.H R
theorem pdi_of {X : Cx} {tg iter : Expr} {u : TI} {t : DA} (h : PI X tg iter u) (k : ∀ S r m σ R, Sta X.K S m → RelE X.K S r σ → PostI X.K S (t r m) R (fun c d H => Fly X c d σ H) → u σ S.H R) : PDI X tg iter t :=
  fun S r m σ R sa re p pins s I => h.run pins s σ S.H R I (k S r m σ R sa re p)
/-- from a result to what is walked -/
theorem PostI.bindI {α β : Type} {R' : Wd → α → β → Prop} {K : PySem.W.Frag} {S : Wd} {r : Res α} {f : α → Mu → Res (List D)} {Q : It → Hp → Prop} {Q' : β → Hp → Prop} {W : XK} (h : PostI K S (r.bind f) Q W)
    (g : ∀ a m v T, Stp S T → Sta K T m → R' T a v → PostI K T (f a m) Q W → Q' v T.H) : Post R' K S r Q' W := by
  cases r with
  | stuck => exact h
  | ok a m =>
    intro v U s1 s2 s3
    refine g a m v U s1 s2 s3 ?_
    have h : PostI K S (f a m) Q W := h
    cases q : f a m with
    | stuck => rw [q] at h; exact h
    | ok ds m1 => rw [q] at h; exact fun J T st => h J T (s1.trans st)
    | exc C fs m1 => rw [q] at h; exact fun dd vs T st hn => h dd vs T (s1.trans st) (s1.old dd hn)
  | exc C fs m => exact h
section
variable {K : PySem.W.Frag} {T : Wd}
/-- a list that stands in the part that never changes -/
theorem frozen {m : Mu} {ds : List D} {v : V} (sa : Sta K T m) (r : Rep K T.i T.F (.lst ds) v) : ∃ a xs, v = .ref a ∧ Reps K T.i T.F ds xs ∧ ∀ U m', Stp T U → Sta K U m' → SqL K U.H a xs ∧ Reps K U.i U.F ds xs := by
  cases r with
  | lst h1 h2 => exact ⟨_, _, rfl, h2, fun U m' st sa' => ⟨SqL.ext' (SqL.ext' h1 st.ext) sa'.sub, h2.stp st⟩⟩
theorem frozenT {m : Mu} {ds : List D} {v : V} (sa : Sta K T m) (r : Rep K T.i T.F (.tup ds) v) : ∃ a xs, v = .ref a ∧ Reps K T.i T.F ds xs ∧ ∀ U m', Stp T U → Sta K U m' → SqT K U.H a xs ∧ Reps K U.i U.F ds xs := by
  cases r with
  | tup h1 h2 => exact ⟨_, _, rfl, h2, fun U m' st sa' => ⟨SqT.ext' (SqT.ext' h1 st.ext) sa'.sub, h2.stp st⟩⟩
end
section
variable {X : Cx} {tg a b : Expr} {es : List Expr} {ta tb : DE} {t : DA} {pos p tpos : Pos}
/-- over a list -/
def dItL (t : DE) : DA := fun e m => (t e m).bind fun d m1 => match d with
  | .lst ds => .ok ds m1
  | _ => .stuck
theorem pdi_list (ha : PDE X a ta) : PDI X tg a (dItL ta) := by
  refine pdi_of (pi_list (mxE X a)) fun S r m σ R sa re p => ?_
  refine ha S r m σ _ sa re (PostI.bindI p fun d m1 v T st sa1 rd q => ?_)
  split at q
  · rename_i ds
    obtain ⟨a, xs, rfl, hr, k⟩ := frozen sa1 rd
    refine ⟨a, rfl, ⟨xs, (k T m1 (Stp.refl T) sa1).1⟩, q _ T (Stp.refl T) sa1 fun U m' i st' sa' => ⟨fun d hd => ?_, fun hl => ⟨xs, (k U m' st' sa').1, by rw [← hr.len]; exact hl⟩⟩⟩
    obtain ⟨v, hv, rv⟩ := (k U m' st' sa').2.get hd
    refine ⟨⟨xs, v, (k U m' st' sa').1, hv⟩, fun x H' hy => ⟨U, hy.1.symm, Stp.refl U, sa', ?_⟩⟩
    have := hy.2 xs (k U m' st' sa').1
    rw [hv] at this; cases this
    exact rv
  · exact q.elim
/-- over a tuple -/
def dItT (t : DE) : DA := fun e m => (t e m).bind fun d m1 => match d with
  | .tup ds => .ok ds m1
  | _ => .stuck
theorem pdi_tup (ha : PDE X a ta) : PDI X tg a (dItT ta) := by
  refine pdi_of (pi_tup (mxE X a)) fun S r m σ R sa re p => ?_
  refine ha S r m σ _ sa re (PostI.bindI p fun d m1 v T st sa1 rd q => ?_)
  split at q
  · rename_i ds
    obtain ⟨a, xs, rfl, hr, k⟩ := frozenT sa1 rd
    refine ⟨a, rfl, ⟨xs, (k T m1 (Stp.refl T) sa1).1⟩, q _ T (Stp.refl T) sa1 fun U m' i st' sa' => ⟨fun d hd => ?_, fun hl => ⟨xs, (k U m' st' sa').1, by rw [← hr.len]; exact hl⟩⟩⟩
    obtain ⟨v, hv, rv⟩ := (k U m' st' sa').2.get hd
    refine ⟨⟨xs, v, (k U m' st' sa').1, hv⟩, fun x H' hy => ⟨U, hy.1.symm, Stp.refl U, sa', ?_⟩⟩
    have := hy.2 xs (k U m' st' sa').1
    rw [hv] at this; cases this
    exact rv
  · exact q.elim
/-- over range(..) -/
def rngD (lo : Int) (n : Nat) : List D := (List.range n).map fun (k : Nat) => .int (lo + (k : Int))
theorem rng_get (lo : Int) (n i : Nat) (d : D) (h : (rngD lo n)[i]? = some d) : i < n ∧ d = .int (lo + (i : Int)) := by
  unfold rngD at h
  rw [List.getElem?_map] at h
  cases q : (List.range n)[i]? with
  | none => rw [q] at h; cases h
  | some k =>
    rw [q] at h; cases h
    obtain ⟨h1, h2⟩ := List.getElem?_eq_some_iff.mp q
    simp at h1 h2
    subst h2
    exact ⟨h1, rfl⟩
theorem rng_len (lo : Int) (n : Nat) : (rngD lo n).length = n := by simp [rngD]
theorem itr_ok {K : PySem.W.Frag} {T : Wd} (lo : Int) (n : Nat) : ItOk K T (Itr lo n) (rngD lo n) := fun U m i st sa => ⟨fun d hd => by
    obtain ⟨h1, rfl⟩ := rng_get lo n i d hd
    exact ⟨h1, fun x H' hy => ⟨U, hy.1.symm, Stp.refl U, sa, by rw [hy.2]; exact .int _⟩⟩, fun hl => by rw [rng_len] at hl; exact hl⟩
def dItR1 (t : DA) : DA := fun e m => (t e m).bind fun ds m1 => match ds with
  | [.int j] => if -(2 ^ 62) ≤ j ∧ j < 2 ^ 62 then .ok (rngD 0 j.toNat) m1 else .stuck
  | _ => .stuck
def dItR2 (t : DA) : DA := fun e m => (t e m).bind fun ds m1 => match ds with
  | [.int i, .int j] => if -(2 ^ 62) ≤ i ∧ i < 2 ^ 62 ∧ -(2 ^ 62) ≤ j ∧ j < 2 ^ 62 then .ok (rngD i (j - i).toNat) m1 else .stuck
  | _ => .stuck
theorem pdi_range1 (hm : X.mg "range" = none) (ha : PDA X [a] t) (hg : Gl X "range" := by rfl) (hs : starEach [a] X.env = [(false, eval a X.env)] := by rfl) : PDI X tg (.Call (.Name "range" p) [a] [] pos) (dItR1 t) := by
  refine pdi_of (pi_range1 hg hm (mxA X [a]) hs) fun S r m σ R sa re p => ?_
  refine ha S r m σ _ sa re (PostI.bindI p fun d m1 v T st sa1 rd q => ?_)
  split at q
  · split at q
    · rename_i h
      obtain ⟨w, rfl, hw⟩ := reps1 rd
      cases hw
      exact ⟨_, rfl, h.1, h.2, q _ T (Stp.refl T) sa1 (itr_ok 0 _)⟩
    · exact q.elim
  · exact q.elim
theorem pdi_range2 (hm : X.mg "range" = none) (ha : PDA X [a, b] t) (hg : Gl X "range" := by rfl) (hs : starEach [a, b] X.env = [(false, eval a X.env), (false, eval b X.env)] := by rfl) (hs2 : starEach [b] X.env = [(false, eval b X.env)] := by rfl) : PDI X tg (.Call (.Name "range" p) [a, b] [] pos) (dItR2 t) := by
  refine pdi_of (pi_range2 hg hm (mxA X [a, b]) hs hs2) fun S r m σ R sa re p => ?_
  refine ha S r m σ _ sa re (PostI.bindI p fun d m1 v T st sa1 rd q => ?_)
  split at q
  · split at q
    · rename_i h
      obtain ⟨w, w2, rfl, hw, hw2⟩ := reps2 rd
      cases hw; cases hw2
      exact ⟨_, _, rfl, h, q _ T (Stp.refl T) sa1 (itr_ok _ _)⟩
    · exact q.elim
  · exact q.elim
/-- over enumerate(xs), zip(xs, ys) -/
def dItE (t : DA) : DA := fun e m => (t e m).bind fun ds m1 => match ds with
  | [.lst es] => .ok ((List.range es.length).zipWith (fun k d => .tup [.int (k : Nat), d]) es) m1
  | _ => .stuck
theorem enum_get (es : List D) (i : Nat) (d : D) (h : ((List.range es.length).zipWith (fun k d => D.tup [.int (k : Nat), d]) es)[i]? = some d) : ∃ x, es[i]? = some x ∧ d = .tup [.int (i : Nat), x] := by
  rw [List.getElem?_zipWith] at h
  cases q : (List.range es.length)[i]? with
  | none => rw [q] at h; cases h
  | some k =>
    cases q2 : es[i]? with
    | none => rw [q, q2] at h; cases h
    | some x =>
      rw [q, q2] at h; cases h
      obtain ⟨h1, h2⟩ := List.getElem?_eq_some_iff.mp q
      simp at h1 h2
      subst h2
      exact ⟨x, rfl, rfl⟩
theorem pdi_enum {elts : List Expr} {kk : Nat} (hm : X.mg "enumerate" = none) (ha : PDA X [a] t) (hg : Gl X "enumerate" := by rfl) (hs : starEach [a] X.env = [(false, eval a X.env)] := by rfl) : PDI X (.Tuple elts kk tpos) (.Call (.Name "enumerate" p) [a] [] pos) (dItE t) := by
  refine pdi_of (pi_enum hg hm (mxA X [a]) hs) fun S r m σ R sa re p => ?_
  refine ha S r m σ _ sa re (PostI.bindI p fun d m1 v T st sa1 rd q => ?_)
  split at q
  · rename_i es
    obtain ⟨w, rfl, hw⟩ := reps1 rd
    obtain ⟨a, xs, rfl, hr, k⟩ := frozen sa1 hw
    refine ⟨a, xs, rfl, (k T m1 (Stp.refl T) sa1).1, q _ T (Stp.refl T) sa1 fun U m' i st' sa' => ⟨fun d hd => ?_, fun hl => ⟨xs, (k U m' st' sa').1, ?_⟩⟩⟩
    · obtain ⟨x, hx, rfl⟩ := enum_get es i d hd
      obtain ⟨v, hv, rv⟩ := (k U m' st' sa').2.get hx
      refine ⟨⟨xs, v, (k U m' st' sa').1, hv⟩, fun y H' hy => ?_⟩
      obtain ⟨n, z, rfl, hn, rfl, hz⟩ := hy
      have hz' := hz xs (k U m' st' sa').1
      rw [hv] at hz'; cases hz'
      have st2 := Stp.new sa' (o := .tup [.int (i : Nat), v]) hn
      exact ⟨U.new n _, rfl, st2, sa'.new hn, .tup (.inl (.inl upd_same)) (.cons (.int _) (.cons (rv.stp st2) .nil))⟩
    · have hl : ((List.range es.length).zipWith (fun k d => D.tup [.int (k : Nat), d]) es).length ≤ i := hl
      rw [List.length_zipWith, List.length_range, Nat.min_self, hr.len] at hl
      exact hl
  · exact q.elim
def dItZ (t : DA) : DA := fun e m => (t e m).bind fun ds m1 => match ds with
  | [.lst xs, .lst ys] => .ok (xs.zipWith (fun x y => .tup [x, y]) ys) m1
  | [.tup xs, .tup ys] => .ok (xs.zipWith (fun x y => .tup [x, y]) ys) m1
  | _ => .stuck
theorem zip_get {xs ys : List D} {i : Nat} {d : D} (h : (xs.zipWith (fun x y => D.tup [x, y]) ys)[i]? = some d) : ∃ x y, xs[i]? = some x ∧ ys[i]? = some y ∧ d = .tup [x, y] := by
  rw [List.getElem?_zipWith] at h
  cases q : xs[i]? with
  | none => rw [q] at h; cases h
  | some k =>
    cases q2 : ys[i]? with
    | none => rw [q, q2] at h; cases h
    | some x => rw [q, q2] at h; cases h; exact ⟨k, x, rfl, rfl, rfl⟩
theorem pdi_zip {elts : List Expr} {kk : Nat} (hm : X.mg "zip" = none) (ha : PDA X [a, b] t) (hg : Gl X "zip" := by rfl) (hs : starEach [a, b] X.env = (false, eval a X.env) :: starEach [b] X.env := by rfl) (hpl : (backTo pos (starEach [b] X.env)).any (·.1) = false := by rfl) : PDI X (.Tuple elts kk tpos) (.Call (.Name "zip" p) [a, b] [] pos) (dItZ t) := by
  refine pdi_of (RZ.pi_zipA hg hm (mxA X [a, b]) hs hpl) fun S r m σ R sa re p => ?_
  refine ha S r m σ _ sa re (PostI.bindI p fun d m1 v T st sa1 rd q => ?_)
  split at q
  · obtain ⟨w, w2, rfl, hw, hw2⟩ := reps2 rd
    obtain ⟨a, xs, rfl, hr, k⟩ := frozen sa1 hw
    obtain ⟨b, ys, rfl, hr2, k2⟩ := frozen sa1 hw2
    refine ⟨a, b, xs, ys, rfl, .inl ⟨(k T m1 (Stp.refl T) sa1).1, (k2 T m1 (Stp.refl T) sa1).1, q _ T (Stp.refl T) sa1 fun U m' i st' sa' => ⟨fun d hd => ?_, fun hl => ⟨xs, ys, (k U m' st' sa').1, (k2 U m' st' sa').1, ?_⟩⟩⟩⟩
    · obtain ⟨x, y, hx, hy, rfl⟩ := zip_get hd
      obtain ⟨v, hv, rv⟩ := (k U m' st' sa').2.get hx
      obtain ⟨v2, hv2, rv2⟩ := (k2 U m' st' sa').2.get hy
      refine ⟨⟨xs, ys, v, v2, (k U m' st' sa').1, (k2 U m' st' sa').1, hv, hv2⟩, fun y H' hy => ?_⟩
      obtain ⟨n, z, z2, rfl, hn, rfl, hz, hz2⟩ := hy
      have hz' := hz xs (k U m' st' sa').1
      have hz2' := hz2 ys (k2 U m' st' sa').1
      rw [hv] at hz'; cases hz'
      rw [hv2] at hz2'; cases hz2'
      have st2 := Stp.new sa' (o := .tup [v, v2]) hn
      exact ⟨U.new n _, rfl, st2, sa'.new hn, .tup (.inl (.inl upd_same)) (.cons (rv.stp st2) (.cons (rv2.stp st2) .nil))⟩
    · rw [List.length_zipWith, hr.len, hr2.len] at hl
      omega
  · obtain ⟨w, w2, rfl, hw, hw2⟩ := reps2 rd
    obtain ⟨a, xs, rfl, hr, k⟩ := frozenT sa1 hw
    obtain ⟨b, ys, rfl, hr2, k2⟩ := frozenT sa1 hw2
    refine ⟨a, b, xs, ys, rfl, .inr ⟨(k T m1 (Stp.refl T) sa1).1, (k2 T m1 (Stp.refl T) sa1).1, q _ T (Stp.refl T) sa1 fun U m' i st' sa' => ⟨fun d hd => ?_, fun hl => ⟨xs, ys, (k U m' st' sa').1, (k2 U m' st' sa').1, ?_⟩⟩⟩⟩
    · obtain ⟨x, y, hx, hy, rfl⟩ := zip_get hd
      obtain ⟨v, hv, rv⟩ := (k U m' st' sa').2.get hx
      obtain ⟨v2, hv2, rv2⟩ := (k2 U m' st' sa').2.get hy
      refine ⟨⟨xs, ys, v, v2, (k U m' st' sa').1, (k2 U m' st' sa').1, hv, hv2⟩, fun y H' hy => ?_⟩
      obtain ⟨n, z, z2, rfl, hn, rfl, hz, hz2⟩ := hy
      have hz' := hz xs (k U m' st' sa').1
      have hz2' := hz2 ys (k2 U m' st' sa').1
      rw [hv] at hz'; cases hz'
      rw [hv2] at hz2'; cases hz2'
      have st2 := Stp.new sa' (o := .tup [v, v2]) hn
      exact ⟨U.new n _, rfl, st2, sa'.new hn, .tup (.inl (.inl upd_same)) (.cons (rv.stp st2) (.cons (rv2.stp st2) .nil))⟩
    · rw [List.length_zipWith, hr.len, hr2.len] at hl
      omega
  · exact q.elim

/-! ### for -/
def dLoop (g : DG) (b : DS) : List D → En → Mu → RS
  | [], e, m => .nx e m
  | d :: ds, e, m => match g d e with
    | none => .stuck
    | some e1 => match b e1 m with
      | .nx e2 m2 => dLoop g b ds e2 m2
      | .ct e2 m2 => dLoop g b ds e2 m2
      | .bk e2 m2 => .nx e2 m2
      | .rt d m2 => .rt d m2
      | .exc C fs e2 m2 => .exc C fs e2 m2
      | .stuck => .stuck
def dFor (t : DA) (g : DG) (b : DS) : DS := fun e m => match t e m with
  | .ok ds m1 => dLoop g b ds e m1
  | .exc C fs m1 => .exc C fs e m1
  | .stuck => .stuck
theorem pds_for {iter : Expr} {body : List Stmt} {g : DG} {u : DS} {sl : List Nat} (hi : PDI X tg iter t) (hg : PDG X tg g sl) (hb : PDSs X body u) (hc : X.calm = true) (hp : PassesOwn (model X.prog X.w) X.A X.env X.xe)
    (hs : ∀ x, foldedSetIterable iter X.env x = pure x := by intro _; rfl) : PDS X (.For tg iter body [] pos) (dFor t g u) := by
  refine ps_of (ps_for hp hc (mxI X tg iter) (mxG X tg) (mxSs X body) hs) fun S r m σ N sa re p => hi S r m σ _ sa re ?_
  unfold dFor at p
  cases q : t r m with
  | stuck => rw [q] at p; exact p
  | exc C fs m1 => rw [q] at p; exact fun dd vs T st hn sa1 h1 h2 => p dd vs σ T st hn sa1 (re.stp st) h1 h2
  | ok ds m1 =>
    rw [q] at p
    intro J T st sa1 hJ
    refine ⟨fun i n σ' H' => n = ds.length - i ∧ i ≤ ds.length ∧ ∃ (U : Wd) (e : En) (m' : Mu), U.H = H' ∧ Stp T U ∧ Sta X.K U m' ∧ RelE X.K U e σ' ∧ PostS X.K U (dLoop g u (ds.drop i) e m') N (Fly X),
      ⟨ds.length, by simp, Nat.zero_le _, T, r, m1, rfl, Stp.refl T, sa1, re.stp st, PostS.step st p⟩, ?_⟩
    rintro i n σ' H' ⟨rfl, hi', U, e, m', rfl, stU, saU, reU, pU⟩
    by_cases hlt : i < ds.length
    · refine .inr ⟨((hJ U m' i stU saU).1 _ (List.getElem?_eq_getElem hlt)).1, fun σ2 H2 => i + 1 ≤ ds.length ∧ ∃ (U2 : Wd) (e2 : En) (m2 : Mu), U2.H = H2 ∧ Stp T U2 ∧ Sta X.K U2 m2 ∧ RelE X.K U2 e2 σ2 ∧ PostS X.K U2 (dLoop g u (ds.drop (i + 1)) e2 m2) N (Fly X),
        fun σ2 H2 h2 => ⟨ds.length - (i + 1), by omega, rfl, h2.1, h2.2⟩, fun x H2 hy => ?_⟩
      obtain ⟨Y, rfl, stY, saY, rdY⟩ := ((hJ U m' i stU saU).1 _ (List.getElem?_eq_getElem hlt)).2 x H2 hy
      rw [List.drop_eq_getElem_cons hlt] at pU
      have pY := PostS.step stY pU
      unfold dLoop at pY
      cases qg : g ds[i] e with
      | none => rw [qg] at pY; exact pY.elim
      | some e1 =>
        rw [qg] at pY
        refine hg Y e m' σ' ds[i] x e1 _ saY (reU.stp stY) rdY qg fun σ1 re1 _ => hb Y e1 m' σ1 _ saY re1 ?_
        have stT := stU.trans stY
        dsimp only at pY
        cases qb : u e1 m' with
        | stuck => rw [qb] at pY; exact pY.elim
        | nx e2 m2 => rw [qb] at pY; exact fun σ2 Z stZ saZ reZ => ⟨hlt, Z, e2, m2, rfl, stT.trans stZ, saZ, reZ, PostS.step stZ pY⟩
        | ct e2 m2 => rw [qb] at pY; exact fun σ2 Z stZ saZ reZ => ⟨hlt, Z, e2, m2, rfl, stT.trans stZ, saZ, reZ, PostS.step stZ pY⟩
        | bk e2 m2 => rw [qb] at pY; exact pY
        | rt d m2 => rw [qb] at pY; exact pY
        | exc C fs e2 m2 => rw [qb] at pY; exact pY
    · have e : i = ds.length := by omega
      subst e
      rw [List.drop_length] at pU
      exact .inl ⟨(hJ U m' _ stU saU).2 (Nat.le_refl _), pU σ' U (Stp.refl U) saU reU⟩

/-! ### while -/
def whileF (c : DT) (b : DS) : Nat → En → Mu → RS
  | 0, _, _ => .stuck
  | n + 1, e, m => match c e m with
    | .stuck => .stuck
    | .exc C fs m1 => .exc C fs e m1
    | .ok false m1 => .nx e m1
    | .ok true m1 => match b e m1 with
      | .nx e2 m2 => whileF c b n e2 m2
      | .ct e2 m2 => whileF c b n e2 m2
      | .bk e2 m2 => .nx e2 m2
      | .rt d m2 => .rt d m2
      | .exc C fs e2 m2 => .exc C fs e2 m2
      | .stuck => .stuck
open Classical in
noncomputable def dWhile (c : DT) (b : DS) : DS := fun e m => if h : ∃ n, whileF c b n e m ≠ .stuck then whileF c b h.choose e m else .stuck
theorem whileF_more (c : DT) (b : DS) : ∀ (n k : Nat) (e : En) (m : Mu), whileF c b n e m ≠ .stuck → whileF c b (n + k) e m = whileF c b n e m
  | 0, _, _, _, h => absurd rfl h
  | n + 1, k, e, m, h => by
    rw [show n + 1 + k = (n + k) + 1 by omega]
    unfold whileF at h ⊢
    cases qc : c e m with
    | stuck => rfl
    | exc C fs m1 => rfl
    | ok v m1 =>
      rw [qc] at h
      cases v with
      | false => rfl
      | true =>
        dsimp only at h ⊢
        cases qb : b e m1 with
        | nx e2 m2 => rw [qb] at h; exact whileF_more c b n k e2 m2 h
        | ct e2 m2 => rw [qb] at h; exact whileF_more c b n k e2 m2 h
        | _ => rfl
theorem dWhile_eq {c : DT} {b : DS} {n : Nat} {e : En} {m : Mu} {r : RS} (h : whileF c b n e m = r) (hr : r ≠ .stuck) : dWhile c b e m = r := by
  have hex : ∃ n, whileF c b n e m ≠ .stuck := ⟨n, by rw [h]; exact hr⟩
  unfold dWhile
  rw [dif_pos hex]
  have hc := hex.choose_spec
  have h1 := whileF_more c b n hex.choose e m (by rw [h]; exact hr)
  have h2 := whileF_more c b hex.choose n e m hc
  rw [Nat.add_comm] at h2
  rw [← h, ← h1, h2]
theorem pds_while {c : Expr} {body : List Stmt} {v : DT} {u : DS} (hv : PDT X c v) (hb : PDSs X body u) (hp : PassesOwn (model X.prog X.w) X.A X.env X.xe) : PDS X (.While c body [] pos) (dWhile v u) := by
  refine ps_of (ps_while hp (mxT X c) (mxSs X body)) fun S r m σ N sa re p => ?_
  unfold dWhile at p
  split at p
  · rename_i hex
    generalize hex.choose = n at p
    refine ⟨fun n σ' H' => ∃ (U : Wd) (e : En) (m' : Mu), U.H = H' ∧ Sta X.K U m' ∧ RelE X.K U e σ' ∧ PostS X.K U (whileF v u n e m') N (Fly X), ⟨n, S, r, m, rfl, sa, re, p⟩, ?_⟩
    rintro n σ' H' ⟨U, e, m', rfl, saU, reU, pU⟩
    cases n with
    | zero => exact (show False from pU).elim
    | succ n =>
      refine hv U e m' σ' _ saU reU ?_
      unfold whileF at pU
      cases qc : v e m' with
      | stuck => rw [qc] at pU; exact pU.elim
      | exc C fs m1 => rw [qc] at pU; exact fun dd vs T st hn sa1 h1 h2 => pU dd vs σ' T st hn sa1 (reU.stp st) h1 h2
      | ok k m1 =>
        rw [qc] at pU
        intro k' T st sa1 hk
        cases (show k = k' from hk)
        have pT := PostS.step st pU
        cases k with
        | false => exact iteF (pT σ' T (Stp.refl T) sa1 (reU.stp st))
        | true =>
          refine iteT ⟨fun σ2 H2 => ∃ (U : Wd) (e : En) (m' : Mu), U.H = H2 ∧ Sta X.K U m' ∧ RelE X.K U e σ2 ∧ PostS X.K U (whileF v u n e m') N (Fly X), fun σ2 H2 h2 => ⟨n, Nat.lt_succ_self n, h2⟩, ?_⟩
          refine hb T e m1 σ' _ sa1 (reU.stp st) ?_
          dsimp only at pT
          cases qb : u e m1 with
          | stuck => rw [qb] at pT; exact pT.elim
          | nx e2 m2 => rw [qb] at pT; exact fun σ2 Z stZ saZ reZ => ⟨Z, e2, m2, rfl, saZ, reZ, PostS.step stZ pT⟩
          | ct e2 m2 => rw [qb] at pT; exact fun σ2 Z stZ saZ reZ => ⟨Z, e2, m2, rfl, saZ, reZ, PostS.step stZ pT⟩
          | bk e2 m2 => rw [qb] at pT; exact pT
          | rt d m2 => rw [qb] at pT; exact pT
          | exc C fs e2 m2 => rw [qb] at pT; exact pT
  · exact p.elim

/-! ### comprehensions -/
def dCompL (g : DG) (c : DT) (b : DE) (e : En) : List D → Mu → List D → Res (List D)
  | [], m, acc => .ok acc m
  | d :: ds, m, acc => match g d e with
    | none => .stuck
    | some e1 => match c e1 m with
      | .ok true m1 => match b e1 m1 with
        | .ok x m2 => if acc.length < sizeLine then dCompL g c b e ds m2 (acc ++ [x]) else .stuck
        | _ => .stuck
      | .ok false m1 => dCompL g c b e ds m1 acc
      | _ => .stuck
def dComp (t : DA) (g : DG) (c : DT) (b : DE) (own : List Nat) : DE := fun e m => (t e m).bind fun ds m1 => (dCompL g c b (wipeE e own) ds m1 []).bind fun xs m2 => .ok (.lst xs) m2
def dYes : DT := fun _ m => .ok true m
def WTs (X : Cx) (ifs : List Expr) : TT := fun σ H Q => ∀ (pins : List (Addr × Obj)) (s : Shared), Inv X pins σ H s → wpAny (model X.prog X.w) X.A (forIn ifs true fun c r => if r = true then do let ok ← isTrue c X.env (eval c X.env); pure (ForInStep.yield ok) else pure (ForInStep.yield r)) (TP X pins σ Q) X.xe s
theorem mxTs (X : Cx) (ifs : List Expr) : PTs X ifs (WTs X ifs) := ⟨fun pins s σ H Q I h => h pins s I⟩
def PDTs (X : Cx) (ifs : List Expr) (t : DT) : Prop := ∀ S r m σ Q, Sta X.K S m → RelE X.K S r σ → PostB X.K S (t r m) Q (fun c d H => Fly X c d σ H) → WTs X ifs σ S.H Q
theorem pdts_nil : PDTs X [] dYes := fun S r m σ Q sa re p pins s I => (pts_nil (X := X)).run pins s σ S.H Q I (Post.ok p (Stp.refl S) sa rfl)
theorem pdts_one {c : Expr} {t : DT} (h : PDT X c t) : PDTs X [c] t := fun S r m σ Q sa re p pins s I => (pts_one (mxT X c)).run pins s σ S.H Q I (h S r m σ Q sa re p)
end
end DL

namespace DL
open PySem PySem.Spec PyProof.Rows L2
variable [LamTab]
section
variable {K : PySem.W.Frag} {S T U Y : Wd}
theorem Stp.hid (st : Stp T Y) {p : Addr} {o : HO} (h : T.H p = none) : Stp T (Y.put p o) := ⟨st.pre, st.ext, fun a u hn h1 h2 h3 => by
  have ne : a ≠ p := ne_of_none h1 h
  obtain ⟨k1, k2, k3⟩ := st.frame a u hn h1 h2 h3
  exact ⟨by show upd Y.H p o a = _; rw [upd_ne ne]; exact k1, k2, k3⟩, fun a z => st.old a (upd_none z)⟩
theorem Stp.kept (st : Stp T Y) {p : Addr} {o : HO} (h : T.H p = none) (hf : Y.F p = none) : Stp T (Y.keep p o) := ⟨st.pre, st.ext.trans (Ext.updNew hf), fun a u hn h1 h2 h3 => by
  have ne : a ≠ p := ne_of_none h1 h
  obtain ⟨k1, k2, k3⟩ := st.frame a u hn h1 h2 h3
  exact ⟨k1, by show upd Y.F p o a = _; rw [upd_ne ne]; exact k2, k3⟩, st.old⟩
end
theorem wipe_none {σ : L2.St} : ∀ {vs : List Nat} {i : Nat}, i ∈ vs → i < σ.length → (wipe σ vs)[i]? = some none
  | v :: vs, i, h, hl => by
    unfold wipe
    by_cases hv : v = i
    · subst hv
      rw [List.getElem?_set_self (by rw [wipe_length]; exact hl)]
    · rw [List.getElem?_set_ne hv]
      rcases List.mem_cons.mp h with e | h
      · exact absurd e.symm hv
      · exact wipe_none h hl
theorem wipe_idem {σ : L2.St} : ∀ {vs : List Nat}, (∀ i ∈ vs, σ[i]? = none ∨ σ[i]? = some none) → wipe σ vs = σ
  | [], _ => rfl
  | v :: vs, h => by
    unfold wipe
    rw [wipe_idem (fun i hi => h i (List.mem_cons_of_mem _ hi))]
    apply List.ext_getElem?
    intro j
    by_cases hj : v = j
    · subst hj
      rcases h v List.mem_cons_self with e | e
      · rw [List.getElem?_eq_none (by rw [List.length_set]; exact List.getElem?_eq_none_iff.mp e), e]
      · rw [List.getElem?_set_self (List.getElem?_eq_some_iff.mp e).1, e]
    · rw [List.getElem?_set_ne hj]
theorem wipe_wipe (σ : L2.St) (vs : List Nat) : wipe (wipe σ vs) vs = wipe σ vs := wipe_idem fun i hi => by
  by_cases hl : i < σ.length
  · exact .inr (wipe_none hi hl)
  · exact .inl (List.getElem?_eq_none (by rw [wipe_length]; omega))
section
variable {X : Cx}
/-- a block's context -/
abbrev Bk (X : Cx) (scope : Scope) (s : Shared) (H : Hp) (C : Addr) (cl : List (Str × Addr)) (fp : List Addr) : Cx := X.blk s H scope (compEnvC scope cl C X.env) fp
abbrev bG (X : Cx) (scope : Scope) (tg : Expr) : TG := fun v σ H Q => ∀ s0 H0 C cl fp, WG (Bk X scope s0 H0 C cl fp) tg v σ H Q
abbrev bT (X : Cx) (scope : Scope) (ifs : List Expr) : TT := fun σ H Q => ∀ s0 H0 C cl fp, WTs (Bk X scope s0 H0 C cl fp) ifs σ H Q
abbrev bE (X : Cx) (scope : Scope) (elt : Expr) : TE := fun σ H Q => ∀ s0 H0 C cl fp, WE (Bk X scope s0 H0 C cl fp) elt σ H Q
variable {elt tg iter : Expr} {ifs : List Expr} {scope : Scope} {own : List (Str × Nat)} {pos spos : Pos} {t : DA} {g : DG} {c : DT} {b : DE} {sl : List Nat}
theorem lc_go {σ : L2.St} {S : Wd} {r : En} {m : Mu} {Q : VK} (hi : PDI X tg iter t)
    (hg : ∀ s H C cl fp, PDG (Bk X scope s H C cl fp) tg g sl) (ht : ∀ s H C cl fp, PDTs (Bk X scope s H C cl fp) ifs c) (he : ∀ s H C cl fp, PDE (Bk X scope s H C cl fp) elt b)
    (hsl : ∀ i ∈ sl, i ∈ own.map (·.2))
    (sa : Sta X.K S m) (re : RelE X.K S r σ) (p : PostD X.K S (dComp t g c b (own.map (·.2)) r m) Q (fun c d H => Fly X c d σ H)) :
    tLc (WI X tg iter) (bG X scope tg) (bT X scope ifs) (bE X scope elt) (own.map (·.2)) σ S.H Q := by
  refine hi S r m σ _ sa re ?_
  unfold dComp at p
  cases q : t r m with
  | stuck => rw [q] at p; exact p
  | exc C fs m1 => rw [q] at p; exact p
  | ok ds m1 =>
    rw [q] at p
    intro J T st sa1 hJ Dd hD
    have pT : PostD X.K T ((dCompL g c b (wipeE r (own.map (·.2))) ds m1 []).bind fun xs m2 => Res.ok (D.lst xs) m2) Q (fun c d H => Fly X c d σ H) := Post.step st p
    have reW : RelE X.K T (wipeE r (own.map (·.2))) (wipe σ (own.map (·.2))) := (re.stp st).wipe _
    have f0 := sa1.fresh hD
    refine ⟨fun i n H' => n = ds.length - i ∧ i ≤ ds.length ∧ ∃ (U : Wd) (m' : Mu) (acc : List D) (av : List V), U.H = H' ∧ Stp T U ∧ Sta X.K U m' ∧ U.H Dd = some (.lst av) ∧ U.F Dd = none ∧ Dd ∉ U.i ∧ Reps X.K U.i U.F acc av ∧
        PostD X.K T ((dCompL g c b (wipeE r (own.map (·.2))) (ds.drop i) m' acc).bind fun xs m2 => Res.ok (D.lst xs) m2) Q (fun c d H => Fly X c d σ H),
      ⟨ds.length, by simp, Nat.zero_le _, T.put Dd (.lst []), m1, [], [], rfl, (Stp.refl T).hid hD, sa1.hid f0.1 f0.2 (by rw [hD]; exact nofun), upd_same, f0.1, f0.2, .nil, pT⟩, ?_⟩
    rintro i n H' ⟨rfl, hi', U, m', acc, av, rfl, stU, saU, hU1, hU2, hU3, rA, pU⟩
    by_cases hlt : i < ds.length
    · refine .inr ⟨((hJ U m' i stU saU).1 _ (List.getElem?_eq_getElem hlt)).1, fun H2 => i + 1 ≤ ds.length ∧ ∃ (U : Wd) (m' : Mu) (acc : List D) (av : List V), U.H = H2 ∧ Stp T U ∧ Sta X.K U m' ∧ U.H Dd = some (.lst av) ∧ U.F Dd = none ∧ Dd ∉ U.i ∧ Reps X.K U.i U.F acc av ∧
        PostD X.K T ((dCompL g c b (wipeE r (own.map (·.2))) (ds.drop (i + 1)) m' acc).bind fun xs m2 => Res.ok (D.lst xs) m2) Q (fun c d H => Fly X c d σ H),
        fun H2 h2 => ⟨ds.length - (i + 1), by omega, rfl, h2.1, h2.2⟩, fun x H2 hy => ?_⟩
      obtain ⟨Y, rfl, stY, saY, rdY⟩ := ((hJ U m' i stU saU).1 _ (List.getElem?_eq_getElem hlt)).2 x H2 hy
      obtain ⟨y1, y2, y3⟩ := stY.frame Dd _ (by exact nofun) hU1 hU2 hU3
      rw [List.drop_eq_getElem_cons hlt] at pU
      unfold dCompL at pU
      have stT := stU.trans stY
      cases qg : g ds[i] (wipeE r (own.map (·.2))) with
      | none => rw [qg] at pU; exact (show False from pU).elim
      | some e1 =>
        rw [qg] at pU
        dsimp only at pU
        intro s0 H0 C0 cl0 fp0
        refine hg s0 H0 C0 cl0 fp0 Y (wipeE r (own.map (·.2))) m' (wipe σ (own.map (·.2))) ds[i] x e1 _ saY (reW.stp stT) rdY qg ?_
        intro σ1 re1 bs
        refine ⟨?_, ?_⟩
        · rw [bs _ hsl]
          exact wipe_wipe _ _
        intro s0 H0 C0 cl0 fp0
        cases qc : c e1 m' with
        | stuck => rw [qc] at pU; exact (show False from pU).elim
        | exc C fs m2 => rw [qc] at pU; exact (show False from pU).elim
        | ok k m2 =>
          rw [qc] at pU
          refine ht s0 H0 C0 cl0 fp0 Y e1 m' σ1 _ saY re1 ?_
          rw [qc]
          intro k' Z stZ saZ hk
          cases (show k = k' from hk)
          obtain ⟨z1, z2, z3⟩ := stZ.frame Dd _ (by exact nofun) y1 y2 y3
          cases k with
          | false =>
            exact iteF ⟨hlt, Z, m2, acc, av, rfl, stT.trans stZ, saZ, z1, z2, z3, (rA.stp stY).stp stZ, pU⟩
          | true =>
            refine iteT ?_
            intro s0 H0 C0 cl0 fp0
            dsimp only at pU
            cases qb : b e1 m2 with
            | stuck => rw [qb] at pU; exact (show False from pU).elim
            | exc C fs m3 => rw [qb] at pU; exact (show False from pU).elim
            | ok dx m3 =>
              rw [qb] at pU
              refine he s0 H0 C0 cl0 fp0 Z e1 m2 σ1 _ saZ (re1.stp stZ) ?_
              rw [qb]
              intro vx V1 stV saV rx
              obtain ⟨w1, w2, w3⟩ := stV.frame Dd _ (by exact nofun) z1 z2 z3
              dsimp only at pU
              split at pU
              · rename_i hlen
                refine ⟨av, w1, by rw [← rA.len]; exact hlen, hlt, V1.put Dd (.lst (av ++ [vx])), m3, acc ++ [dx], av ++ [vx], rfl, ((stT.trans stZ).trans stV).hid hD, saV.hid w2 w3 (by rw [w1]; exact nofun), upd_same, w2, w3, ((((rA.stp stY).stp stZ).stp stV)).append (.cons rx .nil), pU⟩
              · exact (show False from pU).elim
    · have e : i = ds.length := by omega
      subst e
      rw [List.drop_length] at pU
      refine .inl ⟨(hJ U m' _ stU saU).2 (Nat.le_refl _), ?_⟩
      have pU : PostD X.K T (Res.ok (D.lst acc) m') Q (fun c d H => Fly X c d σ H) := pU
      exact pU (.ref Dd) (U.keep Dd (.lst av)) (stU.kept hD hU2) (saU.keep hU1 hU2 hU3 (by exact nofun)) (.lst (.inl (.inl upd_same)) (rA.mono (List.prefix_refl _) (Ext.updNew hU2)))
theorem pd_lc (hi : PDI X tg iter t) (hN : X.N.Nodup) (ok : BlkOk X.N X.env.scope scope own)
    (hg : ∀ s H C cl fp, PDG (Bk X scope s H C cl fp) tg g sl) (ht : ∀ s H C cl fp, PDTs (Bk X scope s H C cl fp) ifs c) (he : ∀ s H C cl fp, PDE (Bk X scope s H C cl fp) elt b)
    (hc : X.calm = true) (hsl : ∀ i ∈ sl, i ∈ own.map (·.2) := by decide) (hs : ∀ x, foldedSetIterable iter X.env x = pure x := by intro _; rfl) :
    PDE X (.ListComp elt [⟨tg, iter, ifs, 0⟩] scope pos) (dComp t g c b (own.map (·.2))) :=
  pd_of (pe_lc (g := bG X scope tg) (tt := bT X scope ifs) (te := bE X scope elt) hc hN (mxI X tg iter) ok (fun s H C cl fp => ⟨fun pins s1 σ H1 v u Q I r h => h s H C cl fp pins s1 u I r⟩) (fun s H C cl fp => ⟨fun pins s1 σ H1 Q I h => h s H C cl fp pins s1 I⟩) (fun s H C cl fp => ⟨fun pins s1 σ H1 Q I h => h s H C cl fp pins s1 I⟩) hs)
    fun S r m σ Q sa re p => lc_go hi hg ht he hsl sa re p
theorem pds_setLc {i : Nat} {y : Str} {py : Pos} (hi : PDI X tg iter t) (hN : X.N.Nodup) (ok : BlkOk X.N X.env.scope scope own)
    (hg : ∀ s H C cl fp, PDG (Bk X scope s H C cl fp) tg g sl) (ht : ∀ s H C cl fp, PDTs (Bk X scope s H C cl fp) ifs c) (he : ∀ s H C cl fp, PDE (Bk X scope s H C cl fp) elt b)
    (hc : X.calm = true) (hsw : swapsWith (.ListComp elt [⟨tg, iter, ifs, 0⟩] scope pos) (some (.Name y py)) spos.line X.env = pure true) (hsl : ∀ i ∈ sl, i ∈ own.map (·.2) := by decide) (hy : X.N[i]? = some y := by rfl) (hyl : X.env.scope.names.lookup y = some .local := by rfl) (hs : ∀ x, foldedSetIterable iter X.env x = pure x := by intro _; rfl) :
    PDS X (.Assign [.Name y py] (.ListComp elt [⟨tg, iter, ifs, 0⟩] scope pos) spos) (dSet i (dComp t g c b (own.map (·.2)))) := by
  refine ps_of (ps_setLc (g := bG X scope tg) (tt := bT X scope ifs) (te := bE X scope elt) hc hN hy hyl hsw (mxI X tg iter) ok (fun s H C cl fp => ⟨fun pins s1 σ H1 v u Q I r h => h s H C cl fp pins s1 u I r⟩) (fun s H C cl fp => ⟨fun pins s1 σ H1 Q I h => h s H C cl fp pins s1 I⟩) (fun s H C cl fp => ⟨fun pins s1 σ H1 Q I h => h s H C cl fp pins s1 I⟩) hs) fun S r m σ N sa re p => ?_
  exact lc_go hi hg ht he hsl sa re (PDE.stm re p fun d m1 v T st sa1 rd q => q _ T (Stp.refl T) sa1 ((re.stp st).set i rd))

/-! ### stores -/
variable {a e o : Expr} {es : List Expr} {ta tb to : DE}
/-- xs[i] = v, xs of the store -/
def dPutI (tv to ti : DE) : DS := fun e m => rsOf e (tv e m) fun v m1 => rsOf e (to e m1) fun o m2 => rsOf e (ti e m2) fun i m3 => match o, i with
  | .loc n, .int k => match m3[n]? with
    | some (.lst ds) => match ixN ds.length k with
      | some j => .nx e (m3.set n (.lst (ds.set j v)))
      | none => .stuck
    | _ => .stuck
  | _, _ => .stuck
theorem rsOf_bind {e : En} {r : Res D} {k : D → Mu → RS} {N : Ends} {S : Wd} {σ : L2.St} (re : RelE X.K S e σ) (p : PostS X.K S (rsOf e r k) N (Fly X)) {Q : VK}
    (h : ∀ d m v T, Stp S T → Sta X.K T m → Rep X.K T.i T.F d v → PostS X.K T (k d m) N (Fly X) → Q v T.H) : PostD X.K S r Q (fun c d H => Fly X c d σ H) := PDE.stm re p h
theorem pds_putI {tpos : Pos} {i : Expr} {ti : DE} (hv : PDE X a ta) (ho : PDE X o to) (hi : PDE X i ti) (hs : swapsWithSole [.Subscript o i tpos] a pos.line X.env = pure false := by rfl) (hw : swappedStores [.Subscript o i tpos] a X.env = pure none := by rfl)
    (h1 : (assignEach [.Subscript o i tpos] X.env).map (·.2) = [assign (.Subscript o i tpos) X.env] := by rfl)
    (ha : ∀ v, assign (.Subscript o i tpos) X.env v = (do
      let ov ← holding [v] (eval o X.env)
      let iv ← holding [v, ov] (eval i X.env)
      standAt tpos
      holding [v, ov, iv] (setItem ov iv v)
      release [v, ov, iv] []) := by intro _; rfl) : PDS X (.Assign [.Subscript o i tpos] a pos) (dPutI ta to ti) := by
  refine ps_of (ps_asg (mxE X a) (pg_sub (mxE X o) (mxE X i) set_list ha) hs hw h1) fun S r m σ N sa re p => ?_
  refine hv S r m σ _ sa re (PDE.stm re p fun v m1 vv T st sa1 rv q => ?_)
  refine ho T r m1 σ _ sa1 (re.stp st) (PDE.stm (re.stp st) q fun d m2 vo U st2 sa2 ro q2 => ?_)
  refine hi U r m2 σ _ sa2 ((re.stp st).stp st2) (PDE.stm ((re.stp st).stp st2) q2 fun ii m3 vi Y st3 sa3 ri q3 => ?_)
  split at q3
  · rename_i n k
    cases ri
    split at q3
    · rename_i ds e1
      split at q3
      · rename_i j ej
        cases (ro.stp st3) with
        | loc hn =>
          obtain ⟨xs, h1, h2⟩ := sa3.ok n _ _ hn e1
          refine ⟨_, xs, k, j, rfl, rfl, h1, by rw [← h2.len]; exact ej, ?_⟩
          obtain ⟨stZ, saZ⟩ := sa3.put (o := .lst (xs.set j vv)) (q := .lst (ds.set j v)) hn ⟨_, upd_same, Reps.set ((rv.stp st2).stp st3) j h2⟩
          exact q3 σ _ stZ saZ ((((re.stp st).stp st2).stp st3).stp stZ)
      · exact q3.elim
    · exact q3.elim
  · exact q3.elim
/-- o.f = v, o an instance of the store of one of these classes -/
def dPutF (Cs : List Addr) (f : Str) (tv to : DE) : DS := fun e m => rsOf e (tv e m) fun v m1 => rsOf e (to e m1) fun o m2 => match o with
  | .loc n => match m2[n]? with
    | some (.ins C fs) => if C ∈ Cs ∧ fs.length < 1000 then .nx e (m2.set n (.ins C (putD f v fs))) else .stuck
    | _ => .stuck
  | _ => .stuck
theorem put_reps {K : PySem.W.Frag} {ι : List Addr} {F : Hp} {f : Str} {d : D} {v : V} (h : Rep K ι F d v) : ∀ {fs : List (Str × D)} {vs : List (Str × V)}, RepF K ι F fs vs → RepF K ι F (putD f d fs) (putF f v vs)
  | _, _, .nil => .cons h .nil
  | _, _, .cons (f := g) h1 r => by
    unfold putD putF
    split
    · exact .cons h r
    · exact .cons h1 (put_reps h r)
theorem pds_putF {f : Str} {pos' : Pos} {Cs : List Addr} (hv : PDE X a ta) (ho : PDE X o to) (hC : ∀ C ∈ Cs, Cls X.K C ∧ NoAttr X.K C f) (hs : swapsWith a (some (.Attribute o f pos')) pos.line X.env = pure false := by rfl) :
    PDS X (.Assign [.Attribute o f pos'] a pos) (dPutF Cs f ta to) := by
  refine ps_of (ps_fld (mxE X o) (mxE X a) hs) fun S r m σ N sa re p => ?_
  refine hv S r m σ _ sa re (PDE.stm re p fun v m1 vv T st sa1 rv q => ?_)
  refine ho T r m1 σ _ sa1 (re.stp st) (PDE.stm (re.stp st) q fun d m2 vo U st2 sa2 ro q2 => ?_)
  split at q2
  · rename_i n
    split at q2
    · rename_i C fs e1
      split at q2
      · rename_i hc
        cases ro with
        | loc hn =>
          obtain ⟨dx, vs, h1, h2⟩ := sa2.ok n _ _ hn e1
          obtain ⟨c1, c2⟩ := hC C hc.1
          refine ⟨_, C, dx, vs, rfl, h1, c1, c2, by rw [← h2.len]; exact hc.2, ?_⟩
          obtain ⟨stZ, saZ⟩ := sa2.put (o := .ins C dx (putF f vv vs)) (q := .ins C (putD f v fs)) hn ⟨dx, _, upd_same, put_reps (rv.stp st2) h2⟩
          exact q2 σ _ stZ saZ (((re.stp st).stp st2).stp stZ)
      · exact q2.elim
    · exact q2.elim
  · exact q2.elim

/-! ### what was of the store is kept for good -/
end
mutual
def below (n : Nat) : D → Bool
  | .loc k => decide (k < n)
  | .tup ds => belows n ds
  | .lst ds => belows n ds
  | .obj _ ds => belows n ds
  | .xob _ _ => false
  | .lam _ _ => false
  | .clo _ _ => false
  | _ => true
def belows (n : Nat) : List D → Bool
  | [] => true
  | d :: ds => below n d && belows n ds
end
def Mo.below (n : Nat) : Mo → Bool
  | .lst ds => belows n ds
  | .ins _ fs => belows n (fs.map (·.2))
  | .exo _ none => true
  | .exo _ (some k) => decide (k < n)
  | .exd fs => belows n (fs.map (·.2))
  | .dik kvs => belows n (kvs.map (·.2))
  | .dit kvs => belows n (kvs.map (·.2))
/-- nothing of the store names what is not there -/
def Cl (m : Mu) : Prop := ∀ o ∈ m, o.below m.length = true
def Wd.cut (Z : Wd) (l : List Addr) : Wd := ⟨l, fun a => if a ∈ Z.i then (if a ∈ l then none else Z.H a) else Z.F a, Z.H⟩
section
variable {K : PySem.W.Frag} {T Z : Wd}
theorem cutF_out {a : Addr} {o : HO} {m : Mu} (sa : Sta K Z m) (h : Z.F a = some o) (l : List Addr) : (Z.cut l).F a = some o := by
  have : a ∉ Z.i := fun z => by rw [sa.dis a z] at h; cases h
  show (if a ∈ Z.i then _ else Z.F a) = some o
  rw [if_neg this]; exact h
mutual
theorem Rep.cut {m : Mu} (sa : Sta K Z m) {l : List Addr} (hl : l <+: Z.i) : ∀ {d : D} {v : V}, Rep K Z.i Z.F d v → below l.length d = true → Rep K l (Z.cut l).F d v
  | _, _, .non, _ => .non
  | _, _, .bl b, _ => .bl b
  | _, _, .int i, _ => .int i
  | _, _, .str x, _ => .str x
  | _, _, .tup h r, hb => .tup (SqT.ext' h fun a o e => cutF_out sa e l) (Reps.cut sa hl r (by unfold below at hb; exact hb))
  | _, _, .lst h r, hb => .lst (SqL.ext' h fun a o e => cutF_out sa e l) (Reps.cut sa hl r (by unfold below at hb; exact hb))
  | _, _, .obj h n r, hb => .obj (cutF_out sa h l) n (Reps.cut sa hl r (by unfold below at hb; exact hb))
  | _, _, .loc (n := k) h, hb => .loc (by
      unfold below at hb
      have hk : k < l.length := of_decide_eq_true hb
      obtain ⟨t, e⟩ := hl
      rw [← e, List.getElem?_append_left hk] at h
      exact h)
  | _, _, .val v, _ => .val v
  | _, _, .xob h n r, hb => by simp [below] at hb
  | _, _, .lam h, hb => by simp [below] at hb
  | _, _, .clo h h2 r, hb => by simp [below] at hb
theorem Reps.cut {m : Mu} (sa : Sta K Z m) {l : List Addr} (hl : l <+: Z.i) : ∀ {d : List D} {v : List V}, Reps K Z.i Z.F d v → belows l.length d = true → Reps K l (Z.cut l).F d v
  | _, _, .nil, _ => .nil
  | _, _, .cons h r, hb => by
    unfold belows at hb
    obtain ⟨h1, h2⟩ := Bool.and_eq_true_iff.mp hb
    exact .cons (Rep.cut sa hl h h1) (Reps.cut sa hl r h2)
end
theorem RepF.join : ∀ {fs : List (Str × D)} {vs : List (Str × V)} {i : List Addr} {F : Hp}, vs.map (·.1) = fs.map (·.1) → Reps K i F (fs.map (·.2)) (vs.map (·.2)) → RepF K i F fs vs
  | [], [], _, _, _, _ => .nil
  | [], _ :: _, _, _, h, _ => by simp at h
  | _ :: _, [], _, _, h, _ => by simp at h
  | (f, d) :: fs, (g, v) :: vs, _, _, h, r => by
    simp only [List.map_cons, List.cons.injEq] at h
    obtain ⟨rfl, h⟩ := h
    simp only [List.map_cons] at r
    cases r with
    | cons h1 h2 => exact .cons h1 (RepF.join h h2)
theorem cut_ok {mT m : Mu} (saT : Sta K T mT) (st : Stp T Z) (sa : Sta K Z m) (hb : ∀ o ∈ m.take mT.length, o.below mT.length = true) : Stp T (Z.cut T.i) ∧ Sta K (Z.cut T.i) (m.take mT.length) := by
  have hpre := st.pre
  have hlen : mT.length ≤ m.length := by
    rw [← saT.len, ← sa.len]; exact hpre.length_le
  have sub : ∀ a, a ∈ T.i → a ∈ Z.i := fun a h => hpre.subset h
  refine ⟨⟨List.prefix_refl _, fun a o e => cutF_out sa (st.ext a o e) T.i, fun a o hn h1 h2 h3 => ?_, st.old⟩, saT.nd, ?_, fun a o e => ?_, fun a ha => ?_, fun a ha => sa.tr a (sub a ha), fun n a o h1 h2 => ?_, fun q hq => ?tb⟩
  case tb =>
    obtain ⟨ps, t1, t2, t3, t4, t5⟩ := sa.tb q hq
    exact ⟨ps, t1, by show (if q.1 ∈ Z.i then _ else Z.F q.1) = none; rw [if_neg t3]; exact t2, fun z => t3 (sub _ z), t4, fun pos cv hc => let ⟨c, c1, c2⟩ := t5 pos cv hc; ⟨c, c1, cutF_out sa c2 T.i⟩⟩
  · obtain ⟨k1, k2, k3⟩ := st.frame a o hn h1 h2 h3
    exact ⟨k1, by show (if a ∈ Z.i then _ else Z.F a) = none; rw [if_neg k3]; exact k2, h3⟩
  · show T.i.length = _
    rw [List.length_take, saT.len]
    omega
  · have e : (if a ∈ Z.i then (if a ∈ T.i then none else Z.H a) else Z.F a) = some o := e
    show Z.H a = some o
    split at e
    · split at e
      · cases e
      · exact e
    · exact sa.sub a o e
  · show (if a ∈ Z.i then (if a ∈ T.i then none else Z.H a) else Z.F a) = none
    have ha : a ∈ T.i := ha
    rw [if_pos (sub a ha), if_pos ha]
  · have h1 : T.i[n]? = some a := h1
    have h1' := pre_get hpre h1
    have hn : n < mT.length := by rw [← saT.len]; exact (List.getElem?_eq_some_iff.mp h1).1
    have h2' : m[n]? = some o := by
      rw [List.getElem?_take_of_lt hn] at h2; exact h2
    have hbo := hb o (List.mem_of_getElem? h2)
    have q := sa.ok n a o h1' h2'
    rw [← saT.len] at hbo
    cases o with
    | lst ds => obtain ⟨xs, q1, q2⟩ := q; exact ⟨xs, q1, q2.cut sa hpre hbo⟩
    | ins C fs => obtain ⟨dx, vs, q1, q2⟩ := q; exact ⟨dx, vs, q1, RepF.join q2.split.1 (q2.split.2.cut sa hpre hbo)⟩
    | exo C d =>
      cases d with
      | none => exact q
      | some k =>
        obtain ⟨dx, q1, q2⟩ := q
        have hk : k < T.i.length := of_decide_eq_true hbo
        refine ⟨dx, ?_, q2⟩
        obtain ⟨t, ht⟩ := hpre
        have q1' := q1
        rw [← ht, List.getElem?_append_left hk] at q1'
        exact q1'
    | exd fs => obtain ⟨vs, q1, q2⟩ := q; exact ⟨vs, q1, RepF.join q2.split.1 (q2.split.2.cut sa hpre hbo)⟩
    | dik kvs => obtain ⟨vs, q1, q0, q2⟩ := q; exact ⟨vs, q1, q0, q2.cut sa hpre hbo⟩
    | dit kvs => obtain ⟨vs, q1, q0, q2⟩ := q; exact ⟨vs, q1, q0, q2.cut sa hpre hbo⟩
/-- what a number of the store beyond the cut has become -/
theorem cut_at {mT m : Mu} (saT : Sta K T mT) (st : Stp T Z) (sa : Sta K Z m) {n : Nat} {a : Addr} (hn : mT.length ≤ n) (h : Z.i[n]? = some a) : (Z.cut T.i).F a = Z.H a := by
  have ha : a ∈ Z.i := List.mem_of_getElem? h
  have hna : a ∉ T.i := fun z => by
    obtain ⟨j, hj⟩ := List.getElem?_of_mem z
    have hj' := pre_get st.pre hj
    obtain ⟨l1, e1⟩ := List.getElem?_eq_some_iff.mp hj'
    obtain ⟨l2, e2⟩ := List.getElem?_eq_some_iff.mp h
    have := (List.getElem_inj sa.nd).mp (e1.trans e2.symm)
    have := (List.getElem?_eq_some_iff.mp hj).1
    rw [saT.len] at this
    omega
  show (if a ∈ Z.i then (if a ∈ T.i then none else Z.H a) else Z.F a) = Z.H a
  rw [if_pos ha, if_neg hna]
end
section
variable {X : Cx} {e o : Expr} {es : List Expr} {t : DA} {pos p : Pos} {x : Str} {k : Nat} {C : Addr} {G : DFn}
/-- C(..): a new instance that never changes behind its __init__ -/
structure KT (P : Program) (w : World) (K : PySem.W.Frag) (mg : Str → Option Value) (base : Heap) (k : Nat) (x : Str) (C : Addr) (G : DFn) : Prop where
  mgx : mg x = some (.ref C)
  ex : ∃ (f : Addr) (fd : FuncData) (ps : List Str) (dds : List D) (G0 : DFn), Mk K C f ∧ FnD P w K mg base k f fd ps G0 ∧ Bd K fd ps dds ∧ G = padF ps.length dds G0
open Classical in
noncomputable def mkObj (C : Addr) (m : Mu) (r : Res D) : Res D := match r with
  | .ok .non m2 => match m2[m.length]? with
    | some (.ins C' fs) => if C' = C ∧ m2 = m ++ [.ins C' fs] ∧ Cl m ∧ belows m.length (fs.map (·.2)) = true then .ok (.obj ⟨C, fs.map (·.1)⟩ (fs.map (·.2))) m else .stuck
    | _ => .stuck
  | .exc C' fs m2 => .exc C' fs m2
  | _ => .stuck
noncomputable def dMake (C : Addr) (G : DFn) (t : DA) : DE := fun e m => (t e m).bind fun ds m1 => mkObj C m1 (G (.loc m1.length :: ds) (m1 ++ [.ins C []]))
theorem run_mk {pins : List (Addr × Obj)} {σ : L2.St} {T : Wd} {m : Mu} {s : Shared} {Q : VK} {us : List Value} {vs : List V} {das : List D} (F : KT X.prog X.w X.K X.mg X.base k x C G) (hr : Room (k + 1) X.A)
    (I : Inv X pins σ T.H s) (sa : Sta X.K T m) (r : Reps X.K T.i T.F das vs) (rv : Vals vs us) (h : PostD X.K T (mkObj C m (G (.loc m.length :: das) (m ++ [.ins C []]))) Q (fun c d H => Fly X c d σ H)) :
    wpAny (model X.prog X.w) X.A (call (.ref C) us) (EP X pins σ Q) X.xe s := by
  obtain ⟨f, fd, ps, dds, G0, M, hf, hb, rfl⟩ := F.ex
  obtain ⟨dsv, dvs, hb1, hd1, hD⟩ := hb.ex
  -- the new instance and its dict
  have nx : T.H (s.heap.objs.size + 1) = none := I.hok.fresh (Nat.le_succ _)
  have ndx : T.H s.heap.objs.size = none := I.hok.fresh (Nat.le_refl _)
  have ne : s.heap.objs.size ≠ s.heap.objs.size + 1 := Nat.ne_of_lt (Nat.lt_succ_self _)
  have I2 := Inv.made (C := C) I
  have st1 := Stp.new sa (o := .own (s.heap.objs.size + 1)) ndx
  have sa1 := sa.new (o := .own (s.heap.objs.size + 1)) ndx
  have nx1 : (T.new s.heap.objs.size (.own (s.heap.objs.size + 1))).H (s.heap.objs.size + 1) = none := by
    show upd T.H _ _ _ = none
    rw [upd_ne ne.symm]; exact nx
  have st2 := Stp.tok sa1 (o := .ins C s.heap.objs.size []) nx1
  have sa2 := sa1.tok (o := .ins C s.heap.objs.size []) nx1 (q := .ins C []) ⟨s.heap.objs.size, [], upd_same, .nil⟩
  have st12 := st1.trans st2
  generalize hT2 : (T.new s.heap.objs.size (.own (s.heap.objs.size + 1))).tok (s.heap.objs.size + 1) (.ins C s.heap.objs.size []) = T2 at st2 sa2 st12
  have hH2 : T2.H = upd (upd T.H s.heap.objs.size (.own (s.heap.objs.size + 1))) (s.heap.objs.size + 1) (.ins C s.heap.objs.size []) := by rw [← hT2]; rfl
  have hi2 : T2.i = T.i ++ [s.heap.objs.size + 1] := by rw [← hT2]; rfl
  have hloc : T2.i[m.length]? = some (s.heap.objs.size + 1) := by
    rw [hi2, ← sa.len, List.getElem?_append_right (Nat.le_refl _), Nat.sub_self]; rfl
  have r1 : Reps X.K T2.i T2.F (.loc m.length :: (das ++ dds)) (V.ref (s.heap.objs.size + 1) :: (vs ++ dvs)) := .cons (.loc hloc) ((r.stp st12).append (hD _ _))
  have r2 : Vals (V.ref (s.heap.objs.size + 1) :: (vs ++ dvs)) (Value.ref (s.heap.objs.size + 1) :: (us ++ dsv)) := .cons rfl (rv.append hd1)
  unfold padF at h
  have hcons : D.loc m.length :: das ++ dds = D.loc m.length :: (das ++ dds) := rfl
  rw [hcons] at h
  split at h
  · rename_i hl
    have hlv : (V.ref (s.heap.objs.size + 1) :: (vs ++ dvs)).length = ps.length := by rw [← r1.len]; exact hl
    have hl2 : (Value.ref (s.heap.objs.size + 1) :: us ++ dsv).length = ps.length := by
      have e := r2.length
      rw [hlv] at e
      exact e.symm
    rw [← hH2] at I2
    have hsp : spD X.K ps.length G0 (V.ref (s.heap.objs.size + 1) :: (vs ++ dvs)) T2.H (fun v H2 => v = .non ∧ Q (.ref (s.heap.objs.size + 1)) H2) (fun c d H => Fly X c d σ H) := by
      refine ⟨hlv, T2, m ++ [.ins C []], _, rfl, sa2, r1, ?_⟩
      cases hG : G0 (D.loc m.length :: (das ++ dds)) (m ++ [.ins C []]) with
      | stuck => rw [hG] at h; exact (show False from h).elim
      | exc C' fs m2 =>
        rw [hG] at h
        exact fun dd vs' Z stZ hn saZ h1 h2 => h dd vs' Z (st12.trans stZ) (st12.old dd hn) saZ h1 h2
      | ok dv m2 =>
        rw [hG] at h
        intro v Z stZ saZ rdv
        unfold mkObj at h
        split at h
        · rename_i heq
          cases heq
          cases rdv
          refine ⟨rfl, ?_⟩
          split at h
          · rename_i C' fs e1
            split at h
            · rename_i hc
              obtain ⟨rfl, hm2, hcl, hbel⟩ := hc
              have hzi := pre_get stZ.pre hloc
              obtain ⟨dx, vv, q1, q2⟩ := saZ.ok _ _ _ hzi e1
              have htk : m2.take m.length = m := by rw [hm2]; simp
              have stTZ := st12.trans stZ
              obtain ⟨c1, c2⟩ := cut_ok sa stTZ saZ (by rw [htk]; exact hcl)
              rw [htk] at c2
              have hbel' : belows T.i.length (fs.map (·.2)) = true := by rw [sa.len]; exact hbel
              refine h (.ref (s.heap.objs.size + 1)) (Z.cut T.i) c1 c2 (.obj (dx := dx) (vs := vv) ?_ q2.split.1 (q2.split.2.cut saZ stTZ.pre hbel'))
              rw [cut_at sa stTZ saZ (Nat.le_refl _) hzi]
              exact q1
            · exact h.elim
          · exact h.elim
        · rename_i heq; cases heq
        · exact h.elim
    refine wpAny_call (make_map (f := f) I.kIn M.makes M.init (beq_iff_eq.mp M.fn) (codeAny_mono (hf.run _ X.stack _ _ ⟨Value.ref (s.heap.objs.size + 1) :: us, []⟩ (Value.ref (s.heap.objs.size + 1) :: (us ++ dsv)) _ _ _ (hr.make C us [])
      (I2.env0.make C us []) (hb1 _ (Value.ref (s.heap.objs.size + 1) :: us) I2.kIn hl2) r2 hsp) fun r s' hq' => ?_))
    cases r with
    | error e =>
      obtain ⟨a, B, sI, pins', σ', H', cls, d, e1, I', nb, up, sky, na, os, ag, e2, fl⟩ := XE.of_call I2 (W := fun c d σ' H => σ' = σ ∧ Fly X c d σ H) (fun cls d H' h => ⟨rfl, h⟩) hq'
      exact fl e s' ⟨a, B, sI, pins', σ', H', cls, d, e1, I', nb, up, sky, na, os, ag, rfl, rfl, e2, rfl⟩
    | ok fl =>
      cases fl with
      | ret u =>
        obtain ⟨v, H', I3, rv3, ev, q3⟩ := I2.after hq'
        subst ev
        exact ⟨rv3, ⟨V.ref (s.heap.objs.size + 1), H', I3, rfl, q3⟩⟩
      | next => exact False.elim hq'
      | brk => exact False.elim hq'
      | cont => exact False.elim hq'
  · exact (show False from h).elim
theorem pd_make (F : KT X.prog X.w X.K X.mg X.base k x C G) (hr : Room (k + 1) X.A) (ha : PDA X (e :: es) t)
    (hg : Gl X x := by rfl) (hdb : (x == ("__debug__" : Str)) = false := by decide) (he : starEach (e :: es) X.env = (false, eval e X.env) :: starEach es X.env := by exact se_cons _ _ _ rfl) (hpl : (backTo pos (starEach es X.env)).any (·.1) = false := by exact se_any _ _ _ rfl) :
    PDE X (.Call (.Name x p) (e :: es) [] pos) (dMake C G t) := by
  intro S r m σ Q sa re q pins s I
  refine wpAny_Call_Name_kw (ld_glob I hg F.mgx ?_ hdb)
  obtain ⟨_, _, _, _, _, M, _⟩ := F.ex
  refine PySem.W.callWith_K (h₀ := X.base) I.ok.mod.kin M.kp (thn (ha.run sa re q I pos) ?_) he hpl
  rintro us s1 ⟨xs, ds, m1, T, st, sa1, rds, rv, I1, q1⟩
  exact ⟨I1.kIn, run_mk F hr I1 sa1 rds rv q1⟩
end
end DL

namespace DL
open PySem PySem.Spec PyProof.Rows L2
variable [LamTab]
/-! ### isinstance -/
inductive Tg where
  | prim (n : String)
  | own (C : Addr)
  deriving DecidableEq
def Tg.val : Tg → Value
  | .prim n => .type n
  | .own C => .ref C
def tagOf (m : Mu) : D → Option Tg
  | .non => some (.prim "NoneType")
  | .bl _ => some (.prim "bool")
  | .int _ => some (.prim "int")
  | .str _ => some (.prim "str")
  | .tup _ => some (.prim "tuple")
  | .lst _ => some (.prim "list")
  | .obj c _ => some (.own c.a)
  | .loc n => match m[n]? with
    | some (.lst _) => some (.prim "list")
    | some (.ins C _) => some (.own C)
    | _ => none
  | _ => none
structure InsK (K : PySem.W.Frag) (C : Addr) : Prop where
  cl : Cls K C
  ha : PySem.W.findIn K (.ref C) "__class__" = some (some (.builtin "object.__class__"))
  hn : PySem.W.specialIn K (.builtin "object.__class__") "__get__" = some (some (.builtin "getset_descriptor.__get__"))
  htk : PySem.W.takesIn K (.builtin "object.__class__") = some true
  hm : PySem.W.mroIn K C (.type "object") = some true
/-- what a class answers by the tag: the built-in kinds, then own classes -/
structure Ans where
  prim : List String
  own : List (Addr × Bool)
def primNames : List String := ["NoneType", "bool", "int", "str", "tuple", "list"]
def Ans.get (A : Ans) : Tg → Option Bool
  | .prim n => if n ∈ primNames then some (decide (n ∈ A.prim)) else none
  | .own C => A.own.lookup C
structure AnsOk (K : PySem.W.Frag) (A : Ans) (us : List Value) : Prop where
  prim : ∀ n ∈ primNames, PySem.W.kitAny K (.type n) us = some (decide (n ∈ A.prim))
  own : ∀ p ∈ A.own, PySem.W.kitAny K (.ref p.1) us = some p.2 ∧ InsK K p.1
theorem lookup_mem {α : Type} {C : Addr} {b : α} : ∀ {l : List (Addr × α)}, l.lookup C = some b → (C, b) ∈ l
  | (D, x) :: r, h => by
    rw [List.lookup_cons] at h
    cases hb : C == D with
    | true =>
      rw [hb] at h
      cases h
      rw [beq_iff_eq.mp hb]; exact List.mem_cons_self
    | false => rw [hb] at h; exact List.mem_cons_of_mem _ (lookup_mem h)
theorem kitOne_any {K : PySem.W.Frag} {t u : Value} {b : Bool} (h : PySem.W.kitAny K t [u] = some b) : PySem.W.kitOne K t u = some b := by
  unfold PySem.W.kitAny at h
  cases q : PySem.W.kitOne K t u with
  | none => rw [q] at h; cases h
  | some c =>
    rw [q] at h
    cases c with
    | true => cases h; rfl
    | false => cases h; rfl
section
variable {K : PySem.W.Frag} {S : Wd} {m : Mu}
theorem SqT.tyx {H : Hp} {a : Addr} {xs : List V} (h : SqT K H a xs) : TyX K H (.ref a) (.type "tuple") := by
  rcases h with (h | ⟨o, h⟩) | ⟨o, its, n, h, hc, _⟩
  · exact .base (.tup h)
  · exact .fTuple h
  · exact .kTuple h hc
theorem SqL.tyx {H : Hp} {a : Addr} {xs : List V} (h : SqL K H a xs) : TyX K H (.ref a) (.type "list") := by
  rcases h with (h | ⟨o, h⟩) | ⟨o, its, n, h, hc, _⟩
  · exact .base (.lst h)
  · exact .base (.frz h)
  · exact .kList h hc
theorem tag_ok {A : Ans} {us : List Value} (hA : AnsOk K A us) {d : D} {v : V} {t : Tg} {b : Bool} (sa : Sta K S m) (r : Rep K S.i S.F d v) (ht : tagOf m d = some t) (hb : A.get t = some b) : ∃ ty, TyX K S.H v ty ∧ PySem.W.kitAny K ty us = some b := by
  have pr : ∀ {n : String}, Tg.prim n = t → PySem.W.kitAny K (.type n) us = some b := fun {n} e => by
    subst e
    unfold Ans.get at hb
    dsimp only at hb
    split at hb
    · rename_i hn
      cases hb
      exact hA.prim n hn
    · cases hb
  have ow : ∀ {C : Addr}, Tg.own C = t → PySem.W.kitAny K (.ref C) us = some b ∧ InsK K C := fun {C} e => by
    subst e
    exact hA.own (C, b) (lookup_mem hb)
  cases r with
  | non => cases ht; exact ⟨_, .base .non, pr rfl⟩
  | bl x => cases ht; exact ⟨_, .base (.bl x), pr rfl⟩
  | int x => cases ht; exact ⟨_, .base (.int x), pr rfl⟩
  | str x => cases ht; exact ⟨_, .base (.str x), pr rfl⟩
  | tup h1 h2 => cases ht; exact ⟨_, SqT.tyx (SqT.ext' h1 sa.sub), pr rfl⟩
  | lst h1 h2 => cases ht; exact ⟨_, SqL.tyx (SqL.ext' h1 sa.sub), pr rfl⟩
  | obj h1 h2 h3 =>
    cases ht
    obtain ⟨k1, k2⟩ := ow rfl
    exact ⟨_, .base (.ins (sa.sub _ _ h1) k2.cl k2.ha k2.hn k2.htk k2.hm), k1⟩
  | @loc n a h =>
    unfold tagOf at ht
    dsimp only at ht
    split at ht
    · rename_i ds e
      cases ht
      obtain ⟨xs, q1, q2⟩ := sa.ok n a _ h e
      exact ⟨_, .base (.lst q1), pr rfl⟩
    · rename_i C fs e
      cases ht
      obtain ⟨dx, vs, q1, q2⟩ := sa.ok n a _ h e
      obtain ⟨k1, k2⟩ := ow rfl
      exact ⟨_, .base (.ins q1 k2.cl k2.ha k2.hn k2.htk k2.hm), k1⟩
    · cases ht
  | val v => cases ht
  | xob h1 h2 h3 => cases ht
  | lam h => cases ht
  | clo h h2 h3 => cases ht
end
section
variable {X : Cx} {a e o c : Expr} {es : List Expr} {ta : DE} {t : DA} {pos p q : Pos} {x : Str}
/-- isinstance(a, C) -/
def dIsi (A : Ans) (ta : DE) : DE := fun e m => (ta e m).bind fun d m1 => match (tagOf m1 d).bind A.get with
  | some b => .ok (.bl b) m1
  | none => .stuck
theorem isi_fin {A : Ans} {us : List Value} (hA : AnsOk X.K A us) {d : D} {m : Mu} {T : Wd} {Q : VK} {W : XK} {v : V} (sa : Sta X.K T m) (rd : Rep X.K T.i T.F d v)
    (h : PostD X.K T (match (tagOf m d).bind A.get with
      | some b => .ok (.bl b) m
      | none => .stuck) Q W) : ∃ b ty, TyX X.K T.H v ty ∧ PySem.W.kitAny X.K ty us = some b ∧ ∀ Z, Stp T Z → Sta X.K Z m → Q (.bl b) Z.H := by
  cases q1 : tagOf m d with
  | none => rw [q1] at h; exact (show False from h).elim
  | some t =>
    rw [q1] at h
    cases q2 : A.get t with
    | none => rw [show (some t).bind A.get = A.get t from rfl, q2] at h; exact (show False from h).elim
    | some b =>
      rw [show (some t).bind A.get = A.get t from rfl, q2] at h
      obtain ⟨ty, k1, k2⟩ := tag_ok hA sa rd q1 q2
      exact ⟨b, ty, k1, k2, fun Z st sZ => h (.bl b) Z st sZ (.bl b)⟩
theorem pd_isi {A : Ans} {u : Value} {cv : V} (ha : PDE X a ta) (hcv : ClsV cv u) (hc : PDE X c (dC (.val cv))) (hA : AnsOk X.K A [u]) (hm : X.mg "isinstance" = none) (hg : Gl X "isinstance" := by rfl)
    (hs : starEach [a, c] X.env = (false, eval a X.env) :: starEach [c] X.env := by rfl) (hs2 : starEach [c] X.env = (false, eval c X.env) :: starEach [] X.env := by rfl) (hpl : (backTo pos (starEach [c] X.env)).any (·.1) = false := by rfl) :
    PDE X (.Call (.Name "isinstance" p) [a, c] [] pos) (dIsi A ta) := by
  refine pd_of (pe_callB call_isi hg hm (by decide +kernel) (pa_cons (mxE X a) (pa_cons (mxE X c) pa_nil hs2) hs) (by decide) (by decide) hs hpl) fun S r m σ Q sa re p => ?_
  refine ha S r m σ _ sa re (Post.bindI p fun d m1 v T st sa1 rd q => ?_)
  refine hc T r m1 σ _ sa1 (re.stp st) ?_
  intro w Z st2 sa2 rw
  cases rw
  obtain ⟨b, ty, k1, k2, k3⟩ := isi_fin hA sa2 (rd.stp st2) (Post.step st2 q)
  exact ⟨v, cv, ty, u, b, rfl, hcv, k1, kitOne_any k2, k3 Z (Stp.refl Z) sa2⟩
/-- isinstance(a, (C1, C2)) -/
theorem pd_isiT {A : Ans} {us : List Value} {cvs : List V} {cs : List Expr} {kk : Nat} (ha : PDE X a ta) (hcv : Paired ClsV cvs us) (hc : PDA X cs (fun _ m => .ok (cvs.map .val) m)) (hl : cvs.length ≤ sizeLine) (hA : AnsOk X.K A us) (hm : X.mg "isinstance" = none) (hg : Gl X "isinstance" := by rfl)
    (hs : starEach [a, .Tuple cs kk q] X.env = (false, eval a X.env) :: starEach [.Tuple cs kk q] X.env := by rfl) (hs2 : starEach [.Tuple cs kk q] X.env = (false, eval (.Tuple cs kk q) X.env) :: starEach [] X.env := by rfl) (hpl : (backTo pos (starEach [.Tuple cs kk q] X.env)).any (·.1) = false := by rfl) :
    PDE X (.Call (.Name "isinstance" p) [a, .Tuple cs kk q] [] pos) (dIsi A ta) := by
  refine pd_of (pe_callB call_isiT hg hm (by decide +kernel) (pa_cons (mxE X a) (pa_cons (pe_tup (mxA X cs)) pa_nil hs2) hs) (by decide) (by decide) hs hpl) fun S r m σ Q sa re p => ?_
  refine ha S r m σ _ sa re (Post.bindI p fun d m1 v T st sa1 rd qq => ?_)
  refine hc T r m1 σ _ sa1 (re.stp st) ?_
  intro ws Z st2 sa2 rw
  have hws : ∀ {l : List V} {ws : List V}, Reps X.K Z.i Z.F (l.map D.val) ws → ws = l := by
    intro l
    induction l with
    | nil => intro ws r; cases r; rfl
    | cons y l ih =>
      intro ws r
      cases r with
      | cons h1 h2 => cases h1; rw [ih h2]
  have e := hws rw
  subst e
  refine ⟨hl, fun n hn => ?_⟩
  have st3 := Stp.new sa2 (o := .tup ws) hn
  have sa3 := sa2.new (o := .tup ws) hn
  obtain ⟨b, ty, k1, k2, k3⟩ := isi_fin hA sa3 ((rd.stp st2).stp st3) (Post.step (st2.trans st3) qq)
  exact ⟨v, n, ws, ty, us, b, rfl, upd_same, hcv, k1, k2, k3 _ (Stp.refl _) sa3⟩
/-! ### keywords -/
/-- the places: where in (positional ++ keywords' ++ defaults') values each parameter finds its own -/
def pick (pl : List Nat) (ds : List D) : Option (List D) := match pl with
  | [] => some []
  | i :: r => match ds[i]? with
    | some d => match pick r ds with
      | some xs => some (d :: xs)
      | none => none
    | none => none
/-- a call with keywords of a def: n positional, names ks -/
structure BK (K : PySem.W.Frag) (fd : FuncData) (ps : List Str) (n : Nat) (ks : List Str) (pl : List Nat) (dds : List D) : Prop where
  ex : ∃ (ds : List Value) (dvs : List V), Vals dvs ds ∧ (∀ (i : List Addr) (F : Hp), Reps K i F dds dvs) ∧
    ∀ (s : Shared) (us ws : List Value), K.In s.heap → us.length = n → ws.length = ks.length → BindsTo s fd ⟨us, ks.zip ws⟩ (ps.zip (pl.filterMap fun i => (us ++ ws ++ ds)[i]?)) ∧ (pl.filterMap fun i => (us ++ ws ++ ds)[i]?).length = ps.length
structure FTK (P : Program) (w : World) (K : PySem.W.Frag) (mg : Str → Option Value) (base : Heap) (k : Nat) (x : Str) (n : Nat) (ks : List Str) (G : DFn) : Prop where
  ex : ∃ (f : Addr) (fd : FuncData) (ps : List Str) (pl : List Nat) (dds : List D) (G0 : DFn), mg x = some (.ref f) ∧ PySem.W.keepIn K (.ref f) = true ∧ FnD P w K mg base k f fd ps G0 ∧ BK K fd ps n ks pl dds ∧
    G = fun ds m => match pick pl (ds ++ dds) with
      | some xs => G0 xs m
      | none => .stuck
theorem pick_reps {K : PySem.W.Frag} {ι : List Addr} {F : Hp} {ds : List D} {vs : List V} (r : Reps K ι F ds vs) : ∀ {pl : List Nat} {xs : List D}, pick pl ds = some xs → Reps K ι F xs (pl.filterMap fun i => vs[i]?)
  | [], xs, h => by cases h; exact .nil
  | i :: pl, xs, h => by
    unfold pick at h
    cases q : ds[i]? with
    | none => rw [q] at h; cases h
    | some d =>
      cases q2 : pick pl ds with
      | none => rw [q, q2] at h; cases h
      | some ys =>
        rw [q, q2] at h; cases h
        obtain ⟨v, hv, rv⟩ := r.get q
        rw [List.filterMap_cons, hv]
        exact .cons rv (pick_reps r q2)
theorem vals_pick {vs : List V} {us : List Value} (r : Vals vs us) : ∀ (pl : List Nat), Vals (pl.filterMap fun i => vs[i]?) (pl.filterMap fun i => us[i]?)
  | [] => .nil
  | i :: pl => by
    rw [List.filterMap_cons, List.filterMap_cons]
    cases q : vs[i]? with
    | none =>
      rw [r.none_of q]
      exact vals_pick r pl
    | some v =>
      obtain ⟨u, hu, ru⟩ := r.get q
      rw [hu]
      exact .cons ru (vals_pick r pl)
def PDK (X : Cx) (kws : List Keyword) (t : DA) : Prop := ∀ S r m σ Q, Sta X.K S m → RelE X.K S r σ → PostL X.K S (t r m) Q (fun c d H => Fly X c d σ H) →
  ∀ (pos : Pos) (pins : List (Addr × Obj)) (s : Shared), Inv X pins σ S.H s → wpAny (model X.prog X.w) X.A (evalAll ((backToKw pos (keywordEach kws X.env)).map (·.2))) (AP X pins σ Q) X.xe s
theorem pdk_nil : PDK X [] dNil := fun S r m σ Q sa re p pos pins s I => (pk_nil (X := X)).run pos pins s σ S.H Q I (Post.ok p (Stp.refl S) sa .nil)
theorem pdk_cons {nm : Option Str} {kpos : Pos} {kws : List Keyword} (ha : PDE X a ta) (hr : PDK X kws t) : PDK X (⟨nm, a, kpos⟩ :: kws) (dCons ta t) := by
  intro S r m σ Q sa re p pos pins s I
  refine (pk_cons (mxE X a) (t := fun σ H Q => ∀ (pos : Pos) (pins : List (Addr × Obj)) (s : Shared), Inv X pins σ H s → wpAny (model X.prog X.w) X.A (evalAll ((backToKw pos (keywordEach kws X.env)).map (·.2))) (AP X pins σ Q) X.xe s) ⟨fun pos pins s σ H Q I h => h pos pins s I⟩).run pos pins s σ S.H Q I ?_
  refine ha S r m σ _ sa re (Post.bindI p fun d m1 v T st sa1 rd q => ?_)
  refine hr T r m1 σ _ sa1 (re.stp st) (Post.bindI q fun ds m2 vs U st2 sa2 rds q2 => ?_)
  exact Post.ok q2 (Stp.refl U) sa2 (.cons (rd.stp st2) rds)
def dFunK (G : DFn) (n nk : Nat) (t u : DA) : DE := fun e m => (t e m).bind fun ds m1 => (u e m1).bind fun zs m2 => if ds.length = n ∧ zs.length = nk then G (ds ++ zs) m2 else .stuck
theorem PDK.run {γ δ : Type} {R' : Wd → γ → δ → Prop} {kws : List Keyword} (ha : PDK X kws t) {S : Wd} {r : En} {m : Mu} {σ : L2.St} {f : List D → Mu → Res γ} {Q : δ → Hp → Prop} (sa : Sta X.K S m) (re : RelE X.K S r σ)
    (p : Post R' X.K S ((t r m).bind f) Q (fun c d H => Fly X c d σ H)) {pins : List (Addr × Obj)} {s : Shared} (I : Inv X pins σ S.H s) (pos : Pos) :
    wpAny (model X.prog X.w) X.A (evalAll ((backToKw pos (keywordEach kws X.env)).map (·.2))) (fun us s1 => ∃ (xs : List V) (ds : List D) (m1 : Mu) (T : Wd), Stp S T ∧ Sta X.K T m1 ∧ Reps X.K T.i T.F ds xs ∧ Vals xs us ∧ Inv X pins σ T.H s1 ∧ Post R' X.K T (f ds m1) Q (fun c d H => Fly X c d σ H)) X.xe s := by
  refine thn (ha S r m σ _ sa re (Post.bindI p (Q' := fun v H => ∃ d m1 T, H = T.H ∧ Stp S T ∧ Sta X.K T m1 ∧ Reps X.K T.i T.F d v ∧ Post R' X.K T (f d m1) Q (fun c d H => Fly X c d σ H)) fun d m1 v T st sa1 r1 q => ⟨d, m1, T, rfl, st, sa1, r1, q⟩) pos pins s I) ?_
  rintro us s1 ⟨xs, H1, I1, r1, d, m1, T, rfl, st, sa1, rd, q⟩
  exact ⟨xs, d, m1, T, st, sa1, rd, r1, I1, q⟩
theorem run_fnK {k : Nat} {n : Nat} {ks : List Str} {G0 : DFn} {f : Addr} {fd : FuncData} {ps : List Str} {pl : List Nat} {dds : List D} {pins : List (Addr × Obj)} {σ : L2.St} {S : Wd} {m : Mu} {s : Shared} {Q : VK} {us ws : List Value} {vs zs : List V} {das dzs : List D} (hf : FnD X.prog X.w X.K X.mg X.base k f fd ps G0) (hr : Room k X.A) (hb : BK X.K fd ps n ks pl dds)
    (I : Inv X pins σ S.H s) (sa : Sta X.K S m) (r : Reps X.K S.i S.F das vs) (rz : Reps X.K S.i S.F dzs zs) (rv : Vals vs us) (rw : Vals zs ws) (hn : das.length = n) (hk : dzs.length = ks.length) {xs : List D} (hp : pick pl ((das ++ dzs) ++ dds) = some xs)
    (h : PostD X.K S (G0 xs m) Q (fun c d H => Fly X c d σ H)) : wpAny (model X.prog X.w) X.A (call (.ref f) us (ks.zip ws)) (EP X pins σ Q) X.xe s := by
  obtain ⟨dsv, dvs, hd, hD, hB⟩ := hb.ex
  have l1 : us.length = n := by rw [← rv.length, ← r.len]; exact hn
  have l2 : ws.length = ks.length := by rw [← rw.length, ← rz.len]; exact hk
  obtain ⟨b1, b2⟩ := hB s us ws I.kIn l1 l2
  have r1 := pick_reps ((r.append rz).append (hD S.i S.F)) hp
  have r2 := vals_pick ((rv.append rw).append hd) pl
  have hlv : (pl.filterMap fun i => (vs ++ zs ++ dvs)[i]?).length = ps.length := by rw [r2.length]; exact b2
  refine wpAny_call (codeAny_mono (hf.run X.A X.stack s S.H ⟨us, ks.zip ws⟩ _ _ Q (fun c d H => Fly X c d σ H) hr I.env0 b1 r2 ⟨hlv, S, m, xs, rfl, sa, r1, h⟩) fun r s' hq => ?_)
  cases r with
  | error e =>
    obtain ⟨a, B, sI, pins', σ', H', cls, d, e1, I', nb, up, sky, na, os, ag, e2, fl⟩ := XE.of_call I (W := fun c d σ' H => σ' = σ ∧ Fly X c d σ H) (fun cls d H' h => ⟨rfl, h⟩) hq
    exact fl e s' ⟨a, B, sI, pins', σ', H', cls, d, e1, I', nb, up, sky, na, os, ag, rfl, rfl, e2, rfl⟩
  | ok fl =>
    cases fl with
    | ret u => exact I.after hq
    | next => exact False.elim hq
    | brk => exact False.elim hq
    | cont => exact False.elim hq
theorem pd_funK {k n : Nat} {ks : List Str} {G : DFn} {kws : List Keyword} {tk : DA} (F : FTK X.prog X.w X.K X.mg X.base k x n ks G) (hr : Room k X.A) (ha : PDA X (e :: es) t) (hkw : PDK X kws tk)
    (hks : (backToKw pos (keywordEach kws X.env)).filterMap (·.1) = ks := by rfl) (hall : (backToKw pos (keywordEach kws X.env)).all (·.1.isSome) = true := by rfl)
    (hg : Gl X x := by rfl) (hdb : (x == ("__debug__" : Str)) = false := by decide) (he : starEach (e :: es) X.env = (false, eval e X.env) :: starEach es X.env := by exact se_cons _ _ _ rfl)
    (hpl : ((backTo pos (starEach (e :: es) X.env)).any (·.1) || (backToKw pos (keywordEach kws X.env)).any (·.1.isNone)) = false := by rfl) :
    PDE X (.Call (.Name x p) (e :: es) kws pos) (dFunK G n ks.length t tk) := by
  obtain ⟨f, fd, ps, pl, dds, G0, hm, hk, hf, hb, rfl⟩ := F.ex
  intro S r m σ Q sa re q pins s I
  refine wpAny_Call_Name_kw (ld_glob I hg hm ?_ hdb)
  refine PySem.W.callWith_KW (h₀ := X.base) I.ok.mod.kin hk hall (thn (ha.run sa re q I pos) ?_) hpl he
  rintro us s1 ⟨xs, das, m1, T, st, sa1, rds, rv, I1, q1⟩
  refine thn (hkw.run sa1 (re.stp st) q1 I1 pos) ?_
  rintro ws s2 ⟨zs, dzs, m2, U, st2, sa2, rdz, rz, I2, q2⟩
  refine ⟨I2.kIn, ?_⟩
  rw [hks]
  split at q2
  · rename_i hl
    dsimp only at q2
    split at q2
    · rename_i xs' hp
      exact run_fnK hf hr hb I2 sa2 (rds.stp st2) rdz rv rz hl.1 hl.2 hp q2
    · exact q2.elim
  · exact q2.elim
theorem pd_funK0 {k : Nat} {ks : List Str} {G : DFn} {kws : List Keyword} {tk : DA} (F : FTK X.prog X.w X.K X.mg X.base k x 0 ks G) (hr : Room k X.A) (hkw : PDK X kws tk)
    (hks : (backToKw pos (keywordEach kws X.env)).filterMap (·.1) = ks := by rfl) (hall : (backToKw pos (keywordEach kws X.env)).all (·.1.isSome) = true := by rfl)
    (hg : Gl X x := by rfl) (hdb : (x == ("__debug__" : Str)) = false := by decide)
    (hpl : ((backTo pos (starEach [] X.env)).any (·.1) || (backToKw pos (keywordEach kws X.env)).any (·.1.isNone)) = false := by rfl) :
    PDE X (.Call (.Name x p) [] kws pos) (dFunK G 0 ks.length dNil tk) := by
  obtain ⟨f, fd, ps, pl, dds, G0, hm, hk, hf, hb, rfl⟩ := F.ex
  intro S r m σ Q sa re q pins s I
  refine wpAny_Call_Name_kw (ld_glob I hg hm ?_ hdb)
  refine PySem.W.callWith_KW0 (first := []) (h₀ := X.base) I.ok.mod.kin hk hall (thn (hkw.run sa re (f := fun zs m2 => if ([] : List D).length = 0 ∧ zs.length = ks.length then _ else .stuck) q I pos) ?_) hpl
  rintro ws s2 ⟨zs, dzs, m2, U, st2, sa2, rdz, rz, I2, q2⟩
  refine ⟨I2.kIn, ?_⟩
  rw [hks]
  split at q2
  · rename_i hl
    dsimp only at q2
    split at q2
    · rename_i xs' hp
      exact run_fnK (us := []) (vs := []) (das := []) hf hr hb I2 sa2 .nil rdz .nil rz rfl hl.2 hp q2
    · exact q2.elim
  · exact q2.elim
end
end DL

namespace DL
open PySem PySem.Spec PyProof.Rows L2
variable [LamTab]
section
variable {P : Program} {w : World} {K : PySem.W.Frag} {mg : Str → Option Value} {base : Heap}
theorem MT.mono {j k : Nat} {mn : Str} {C : Addr} {G : DFn} (h : MT P w K mg base j mn C G) (hk : j ≤ k) : MT P w K mg base k mn C G := by
  obtain ⟨f, fd, ps, dds, G0, h1, h2, h3, h4, h5, h6⟩ := h.ex
  exact ⟨f, fd, ps, dds, G0, h1, h2, h3, h4.mono hk, h5, h6⟩
theorem bd_of {fd : FuncData} {ps : List Str} {dvs : List V} {dds : List D} (h : ∃ ds, Vals dvs ds ∧ Binds K fd ps ds) (r : ∀ (i : List Addr) (F : Hp), Reps K i F dds dvs) : Bd K fd ps dds := by
  obtain ⟨ds, h1, h2⟩ := h
  exact ⟨ds, dvs, h2, h1, r⟩
theorem dfl_nil {dV : Value} (h : DflV K dV []) : dV = .none := by
  rcases h with ⟨_, h⟩ | ⟨h, _⟩
  · exact h
  · exact absurd rfl h
theorem pdss_stuck {X : Cx} {sts : List Stmt} : PDSs X sts dStuck := fun S r m σ N sa re p => p.elim
theorem fnD_none {x qual : Str} {params : Arguments} {body : List Stmt} {scope : Scope} {dvs : List V} {kws : List (Str × V)} {f : Addr} {fd : FuncData} {N ps : List Str} (F : FunD K x qual params body scope dvs kws f fd) (S : FnScope N ps scope) :
    FnD P w K mg base 1 f fd ps (fun _ _ => .stuck) := FnD.imp' (fnD_of (k := 0) (t := dStuck) F S fun cdv A outer s H E hr => pdss_stuck) fun ds m h => absurd rfl h
/-- without the tables of code objects -/
def noTbl (H : Hp) : Hp := fun b => match H b with
  | some (.tbl _) => none
  | o => o
/-- the law's promise -/
def spLaw (K : PySem.W.Frag) : Sp := fun vs H Q _ => ∃ (a : Addr) (ns : List Int), vs = [.ref a] ∧ SqL K H a (ns.map V.int) ∧ ns.length ≤ 63 ∧ (∀ p ∈ LamTab.tbls K, H p.1 = some (.tbl #[])) ∧ ∀ H', Q (.bl true) H'
theorem reps_ints {ι : List Addr} {F : Hp} : ∀ (ns : List Int), Reps K ι F (ns.map D.int) (ns.map V.int)
  | [] => .nil
  | n :: ns => .cons (.int n) (reps_ints ns)
theorem law_sp {k : Nat} {f : Addr} {fd : FuncData} {x : Str} {F : DFn} (h : FnD P w K mg base k f fd [x] F) (ht : ∀ ns : List Int, ns.length ≤ 63 → ∃ m, F [.lst (ns.map .int)] [] = .ok (.bl true) m) : FnOk P w K mg base (L2.CX P w) k f fd [x] (spLaw K) := by
  refine FnOk.imp h fun vs H Q E hs => ?_
  obtain ⟨a, ns, rfl, hS, hl, hT, hq⟩ := hs
  obtain ⟨m, e⟩ := ht ns hl
  have ex : Ext (noTbl H) H := fun b o e => by
    unfold noTbl at e
    split at e
    · cases e
    · exact e
  have hS' : SqL K (noTbl H) a (ns.map V.int) := by
    rcases hS with (h | ⟨o, h⟩) | h
    · exact .inl (.inl (by unfold noTbl; rw [h]))
    · exact .inl (.inr ⟨o, by unfold noTbl; rw [h]⟩)
    · exact .inr h
  refine ⟨rfl, ⟨[], noTbl H, H⟩, [], [.lst (ns.map .int)], rfl, ⟨List.nodup_nil, rfl, ex, fun a h => (nomatch h), fun a h => (nomatch h), fun n a o h => by simp at h, fun p hp => ⟨#[], hT p hp, by show noTbl H p.1 = none; unfold noTbl; rw [hT p hp], (fun z => nomatch z), True.intro, fun pos cv hc => by
      have z : codeAmong pos [] = some cv := hc
      simp [codeAmong] at z⟩⟩, .cons (.lst hS' (reps_ints ns)) .nil, ?_⟩
  rw [e]
  intro v T st sa r
  cases r
  exact hq _
theorem nofly {outer : List Env} {H : Hp} {s s' : Shared} {e : Value} (z : L2.CX P w outer H s (fun _ _ _ => False) e s') : False := by
  obtain ⟨_, _, _, _, _, _, _, _, _, _, _, _, z⟩ := z
  exact z
end
section
variable {X : Cx} {a b c : Expr} {ta tb tc : DE} {t : DA} {pos : Pos}
def dPar3 (i j l : Nat) (t : DA) : DS := fun e m => match t e m with
  | .ok [x, y, z] m1 => .nx (((e.set i (some x)).set j (some y)).set l (some z)) m1
  | .exc C fs m1 => .exc C fs e m1
  | _ => .stuck
theorem reps3 {K : PySem.W.Frag} {i : List Addr} {F : Hp} {d e f : D} {xs : List V} (r : Reps K i F [d, e, f] xs) : ∃ u v w, xs = [u, v, w] ∧ Rep K i F d u ∧ Rep K i F e v ∧ Rep K i F f w := by
  cases r with
  | cons h r => obtain ⟨v, w, rfl, h2, h3⟩ := reps2 r; exact ⟨_, v, w, rfl, h, h2, h3⟩
theorem pds_par3 {i j l : Nat} {x y z : Str} {px py pz pt : Pos} {kt k2 pt2} (ha : PDA X [a, b, c] t) (hc : X.calm = true) (hN : X.N.Nodup)
    (hw : swappedStores [.Tuple [.Name x px, .Name y py, .Name z pz] kt pt] (.Tuple [a, b, c] k2 pt2) X.env = pure (some [x, y, z]) := by rfl) (hi : X.N[i]? = some x := by rfl) (hj : X.N[j]? = some y := by rfl) (hl : X.N[l]? = some z := by rfl) (hij : i ≠ j := by decide) (hil : i ≠ l := by decide) (hjl : j ≠ l := by decide)
    (hx : X.env.scope.names.lookup x = some .local := by rfl) (hy : X.env.scope.names.lookup y = some .local := by rfl) (hz : X.env.scope.names.lookup z = some .local := by rfl)
    (hs : swapsWithSole [.Tuple [.Name x px, .Name y py, .Name z pz] kt pt] (.Tuple [a, b, c] k2 pt2) pos.line X.env = pure false := by rfl) :
    PDS X (.Assign [.Tuple [.Name x px, .Name y py, .Name z pz] kt pt] (.Tuple [a, b, c] k2 pt2) pos) (dPar3 i j l t) := by
  refine ps_of (ps_par3 hc hN hi hj hl hij hil hjl hx hy hz (mxA X _) hw hs) fun S r m σ N sa re p => ha S r m σ _ sa re ?_
  unfold dPar3 at p
  cases q : t r m with
  | stuck => rw [q] at p; exact p
  | exc C fs m1 => rw [q] at p; exact fun dd vs T st hn sa1 h1 h2 => p dd vs σ T st hn sa1 (re.stp st) h1 h2
  | ok ds m1 =>
    rw [q] at p
    intro vs T st sa1 rds
    split at p
    · rename_i d1 d2 d3 m2 heq
      cases heq
      obtain ⟨u, v, w, rfl, r1, r2, r3⟩ := reps3 rds
      exact ⟨u, v, w, rfl, p _ T st sa1 ((((re.stp st).set i r1).set j r2).set l r3)⟩
    · rename_i heq; cases heq
    · exact p.elim
theorem pdt_chain {op op' : CmpOp} {g h : D2} (ho : OD X (compareOp op) g) (ho' : OD X (compareOp op') h) (ha : PDE X a ta) (hb : PDE X b tb) (hc : PDE X c tc)
    (hm : lastMarks [op, op'] [b, c] = false := by with_unfolding_all rfl) : PDT X (.Compare a [op, op'] [b, c] pos) (dTst (dChain g h ta tb tc)) := by
  intro S r m σ Q sa re p pins s I
  have p : PostD X.K S (dChain g h ta tb tc r m) (fun v H => ∃ b, v = .bl b ∧ Q b H) (fun c d H => Fly X c d σ H) := EP.bool (pins := pins) (σ := σ) p
  refine isTrue_chain (thn (ha.run sa re p I) ?_) hm
  rintro v s1 ⟨x, d, m1, T, st, sa1, rd, r1, I1, q⟩
  refine test_link (thn (hb.run sa1 (re.stp st) q I1) ?_)
  rintro u s2 ⟨y, d', m2, U, st2, sa2, rd2, r2, I2, q2⟩
  refine thn (ho.run sa2 (rd.stp st2) rd2 r1 r2 q2 I2) ?_
  rintro w s3 ⟨z, d3, m3, Y, st3, sa3, rd3, r3, I3, q3⟩
  cases rd3 with
  | bl k =>
    cases r3
    refine wpAny_truthy_bool ?_
    cases k with
    | false =>
      obtain ⟨k', e', q'⟩ := Post.ok q3 (Stp.refl Y) sa3 (.bl false)
      cases e'
      exact ite_ff ⟨_, I3, q'⟩
    | true =>
      refine ite_tt (test_last (thn (hc.run sa3 (((re.stp st).stp st2).stp st3) q3 I3) ?_))
      rintro w' s4 ⟨z', d4, m4, Z, st4, sa4, rd4, r4, I4, q4⟩
      refine thn (ho' pins s4 σ Z m4 d' d4 y z' u w' _ sa4 ((rd2.stp st3).stp st4) rd4 I4 r2 r4 q4) ?_
      rintro c5 s5 ⟨z5, H5, I5, r5, k5, e5, q5⟩
      subst e5
      cases r5
      exact wpAny_truthy_bool ⟨H5, I5, q5⟩
  | _ => exact (show False from q3).elim
end
end DL

namespace DL
open PySem PySem.Spec PyProof.Rows L2
variable [LamTab]
section
@[simp ↓] theorem dVar_ap (i : Nat) (e : En) (m : Mu) : dVar  i e m = match e[i]? with
  | some (some d) => .ok d m
  | _ => .stuck := rfl
@[simp ↓] theorem dC_ap (d : D) (x_0 : En) (m : Mu) : dC  d x_0 m = .ok d m := rfl
@[simp ↓] theorem dBin_ap (f : D2) (a b : DE) (e : En) (m : Mu) : dBin  f a b e m = (a e m).bind fun x m1 => (b e m1).bind fun y m2 => f x y m2 := rfl
@[simp] theorem orD_ap (f g : D2) (x : D) (y : D) (m : Mu) : orD  f g x y m = match f x y m with
  | .stuck => g x y m
  | r => r := rfl
@[simp ↓] theorem dTst_ap (t : DE) (e : En) (m : Mu) : dTst  t e m = (t e m).bind fun d m => match d with
  | .bl b => .ok b m
  | _ => .stuck := rfl
@[simp ↓] theorem dTr_ap (t : DE) (e : En) (m : Mu) : dTr  t e m = (t e m).bind fun d m => match dTru m d with
  | some b => .ok b m
  | none => .stuck := rfl
@[simp ↓] theorem dNotT_ap (t : DT) (e : En) (m : Mu) : dNotT  t e m = (t e m).bind fun b m => .ok (!b) m := rfl
@[simp ↓] theorem dAndT_ap (t u : DT) (e : En) (m : Mu) : dAndT  t u e m = (t e m).bind fun b m => if b then u e m else .ok false m := rfl
@[simp ↓] theorem dOrT_ap (t u : DT) (e : En) (m : Mu) : dOrT  t u e m = (t e m).bind fun b m => if b then .ok true m else u e m := rfl
@[simp ↓] theorem dAnd_ap (t u : DE) (e : En) (m : Mu) : dAnd  t u e m = (t e m).bind fun d m => match d with
  | .bl true => u e m
  | .bl false => .ok (.bl false) m
  | _ => .stuck := rfl
@[simp ↓] theorem dOr_ap (t u : DE) (e : En) (m : Mu) : dOr  t u e m = (t e m).bind fun d m => match d with
  | .bl false => u e m
  | .bl true => .ok (.bl true) m
  | _ => .stuck := rfl
@[simp ↓] theorem dNot_ap (t : DE) (e : En) (m : Mu) : dNot  t e m = (t e m).bind fun d m => match d with
  | .bl b => .ok (.bl !b) m
  | _ => .stuck := rfl
@[simp ↓] theorem dIf_ap (t : DT) (u w : DE) (e : En) (m : Mu) : dIf  t u w e m = (t e m).bind fun b m => if b then u e m else w e m := rfl
@[simp ↓] theorem dChain_ap (g h : D2) (ta tb tc : DE) (e : En) (m : Mu) : dChain  g h ta tb tc e m = (ta e m).bind fun x m1 => (tb e m1).bind fun y m2 => (g x y m2).bind fun z m3 => match z with
  | .bl true => (tc e m3).bind fun w m4 => h y w m4
  | .bl false => .ok (.bl false) m3
  | _ => .stuck := rfl
@[simp ↓] theorem dNil_ap (x_0 : En) (m : Mu) : dNil  x_0 m = .ok [] m := rfl
@[simp ↓] theorem dCons_ap (t : DE) (u : DA) (e : En) (m : Mu) : dCons  t u e m = (t e m).bind fun d m1 => (u e m1).bind fun ds m2 => .ok (d :: ds) m2 := rfl
@[simp ↓] theorem dTup_ap (t : DA) (e : En) (m : Mu) : dTup  t e m = (t e m).bind fun ds m1 => if ds.length ≤ sizeLine then .ok (.tup ds) m1 else .stuck := rfl
@[simp ↓] theorem dLst_ap (t : DA) (e : En) (m : Mu) : dLst  t e m = (t e m).bind fun ds m1 => if ds.length ≤ sizeLine then .ok (.lst ds) m1 else .stuck := rfl
@[simp ↓] theorem dLoc_ap (t : DA) (e : En) (m : Mu) : dLoc  t e m = (t e m).bind fun ds m1 => if ds.length ≤ sizeLine then .ok (.loc m1.length) (m1 ++ [.lst ds]) else .stuck := rfl
@[simp ↓] theorem dFn_ap (N : Nat) (body : DS) (ds : List D) (m : Mu) : dFn  N body ds m = match body (env0 N ds) m with
  | .nx _ m1 => .ok .non m1
  | .rt d m1 => .ok d m1
  | .exc C fs _ m1 => .exc C fs m1
  | _ => .stuck := rfl
@[simp ↓] theorem dFld_ap (rows : List (Kl × Nat)) (t : DE) (e : En) (m : Mu) : dFld  rows t e m = (t e m).bind fun d m1 => match insOf m1 d with
  | some (C, ns, ds) => match fldAt rows C ns ds with
    | some x => .ok x m1
    | none => .stuck
  | none => .stuck := rfl
@[simp] theorem padF_ap (n : Nat) (dds : List D) (G : DFn) (ds : List D) (m : Mu) : padF  n dds G ds m = if (ds ++ dds).length = n then G (ds ++ dds) m else .stuck := rfl
@[simp ↓] theorem dFun_ap (G : DFn) (t : DA) (e : En) (m : Mu) : dFun  G t e m = (t e m).bind G := rfl
@[simp ↓] theorem dMeth_ap (rows : List (Kl × DFn)) (to : DE) (t : DA) (e : En) (m : Mu) : dMeth  rows to t e m = (to e m).bind fun o m1 => match insOf m1 o with
  | some (C, ns, _) => match methAt rows C ns with
    | some G => (t e m1).bind fun ds m2 => G (o :: ds) m2
    | none => .stuck
  | none => .stuck := rfl
@[simp ↓] theorem dProp_ap (rows : List (Kl × DFn)) (to : DE) (e : En) (m : Mu) : dProp  rows to e m = (to e m).bind fun o m1 => match insOf m1 o with
  | some (C, ns, _) => match methAt rows C ns with
    | some G => noExc (G [o] m1)
    | none => .stuck
  | none => .stuck := rfl
@[simp ↓] theorem dOwn2_ap (C : Addr) (G : DFn) (x : D) (y : D) (m : Mu) : dOwn2  C G x y m = match insOf m x, insOf m y with
  | some (C1, _, _), some (C2, _, _) => if C1 = C ∧ C2 = C then G [x, y] m else .stuck
  | _, _ => .stuck := rfl
@[simp ↓] theorem dNeg_ap (C : Addr) (G : DFn) (t : DE) (e : En) (m : Mu) : dNeg  C G t e m = (t e m).bind fun x m1 => match x with
  | .int i => .ok (.int (-i)) m1
  | _ => match insOf m1 x with
    | some (C1, _, _) => if C1 = C then G [x] m1 else .stuck
    | none => .stuck := rfl
@[simp ↓] theorem dNegI_ap (t : DE) (e : En) (m : Mu) : dNegI  t e m = (t e m).bind fun x m1 => match x with
  | .int i => .ok (.int (-i)) m1
  | _ => .stuck := rfl
@[simp] theorem gI2_ap (C : Int → Int → Bool) (k : Int → Int → D) (x : D) (y : D) (m : Mu) : gI2  C k x y m = match x with
  | .int i => match y with
    | .int j => if C i j then .ok (k i j) m else .stuck
    | _ => .stuck
  | _ => .stuck := rfl
@[simp] theorem gI0_ap (k : Int → Int → D) (x : D) (y : D) (m : Mu) : gI0  k x y m = match x with
  | .int i => match y with
    | .int j => .ok (k i j) m
    | _ => .stuck
  | _ => .stuck := rfl
@[simp] theorem gAddS_ap (x : D) (y : D) (m : Mu) : gAddS  x y m = match x with
  | .str a => match y with
    | .str b => if a.length + b.length ≤ sizeLine then .ok (.str (a ++ b)) m else .stuck
    | _ => .stuck
  | _ => .stuck := rfl
@[simp] theorem gIsN_ap (x : D) (y : D) (m : Mu) : gIsN  x y m = match y with
  | .non => match x with
    | .non => .ok (.bl true) m
    | .val _ => .stuck
    | _ => .ok (.bl false) m
  | _ => .stuck := rfl
@[simp] theorem gNotN_ap (x : D) (y : D) (m : Mu) : gNotN  x y m = match y with
  | .non => match x with
    | .non => .ok (.bl false) m
    | .val _ => .stuck
    | _ => .ok (.bl true) m
  | _ => .stuck := rfl
@[simp] theorem gEqD_ap (neg : Bool) (x : D) (y : D) (m : Mu) : gEqD  neg x y m = match pyOf m x, pyOf m y with
  | some d, some e => if SeqAt.shaped d && SeqAt.shaped e then .ok (.bl (neg ^^ PyData.eqv d e)) m else .stuck
  | _, _ => .stuck := rfl
@[simp] theorem gEqS_ap (neg : Bool) (x : D) (y : D) (m : Mu) : gEqS  neg x y m = match scEq x y with
  | some b => .ok (.bl (neg ^^ b)) m
  | none => .stuck := rfl
@[simp] theorem gInQ_ap (neg : Bool) (x : D) (y : D) (m : Mu) : gInQ  neg x y m = match toV x, (seqA m y).bind toVs with
  | some v, some vs => .ok (.bl (neg ^^ inV v vs)) m
  | _, _ => .stuck := rfl
@[simp] theorem gInS_ap (neg : Bool) (x : D) (y : D) (m : Mu) : gInS  neg x y m = match x with
  | .str a => match y with
    | .str b => .ok (.bl (neg ^^ occurs a b)) m
    | _ => .stuck
  | _ => .stuck := rfl
@[simp] theorem gAbs_ap (ds : List D) (m : Mu) : gAbs  ds m = match ds with
  | [.int i] => .ok (.int (if i < 0 then -i else i)) m
  | _ => .stuck := rfl
@[simp] theorem gInt_ap (ds : List D) (m : Mu) : gInt  ds m = match ds with
  | [.int i] => .ok (.int i) m
  | [.bl b] => .ok (.int (if b then 1 else 0)) m
  | _ => .stuck := rfl
@[simp] theorem gBool_ap (ds : List D) (m : Mu) : gBool  ds m = match ds with
  | [.int i] => .ok (.bl (i != 0)) m
  | [.bl b] => .ok (.bl b) m
  | _ => .stuck := rfl
@[simp] theorem gMin2_ap (ds : List D) (m : Mu) : gMin2  ds m = match ds with
  | [.int i, .int j] => .ok (.int (if j < i then j else i)) m
  | _ => .stuck := rfl
@[simp] theorem gMax2_ap (ds : List D) (m : Mu) : gMax2  ds m = match ds with
  | [.int i, .int j] => .ok (.int (if j > i then j else i)) m
  | _ => .stuck := rfl
@[simp] theorem gStrI_ap (ds : List D) (m : Mu) : gStrI  ds m = match ds with
  | [.int i] => if i.natAbs.log2 < 1920 then .ok (.str (toString i)) m else .stuck
  | _ => .stuck := rfl
@[simp] theorem gLen_ap (ds : List D) (m : Mu) : gLen  ds m = match ds with
  | [.str x] => if x.length ≤ sizeLine then .ok (.int x.length) m else .stuck
  | [d] => match seqA m d with
    | some ds => .ok (.int ds.length) m
    | none => .stuck
  | _ => .stuck := rfl
@[simp] theorem gList_ap (ds : List D) (m : Mu) : gList  ds m = match ds with
  | [d] => match seqA m d with
    | some es => .ok (.lst es) m
    | none => .stuck
  | _ => .stuck := rfl
@[simp] theorem gListM_ap (ds : List D) (m : Mu) : gListM  ds m = match ds with
  | [d] => match seqA m d with
    | some es => .ok (.loc m.length) (m ++ [.lst es])
    | none => .stuck
  | _ => .stuck := rfl
@[simp] theorem gAll_ap (ds : List D) (m : Mu) : gAll  ds m = match ds with
  | [d] => match (seqL m d).bind toBs with
    | some bs => .ok (.bl (bs.all _root_.id)) m
    | none => .stuck
  | _ => .stuck := rfl
@[simp] theorem gAny_ap (ds : List D) (m : Mu) : gAny  ds m = match ds with
  | [d] => match (seqL m d).bind toBs with
    | some bs => .ok (.bl (bs.any _root_.id)) m
    | none => .stuck
  | _ => .stuck := rfl
@[simp ↓] theorem dNoPart_ap (x_0 : En) (m : Mu) : dNoPart  x_0 m = .ok none m := rfl
@[simp ↓] theorem dPart_ap (t : DE) (e : En) (m : Mu) : dPart  t e m = (t e m).bind fun d m1 => match d with
  | .int i => .ok (some i) m1
  | _ => .stuck := rfl
@[simp ↓] theorem dSl_ap (t : DE) (lo hi : DO) (e : En) (m : Mu) : dSl  t lo hi e m = (t e m).bind fun d m1 => (lo e m1).bind fun l m2 => (hi e m2).bind fun h m3 => match seqL m3 d with
  | some ds => .ok (.lst (cutD ds l h)) m3
  | none => .stuck := rfl
@[simp ↓] theorem dSeq_ap (t u : DS) (e : En) (m : Mu) : dSeq  t u e m = match t e m with
  | .nx e1 m1 => u e1 m1
  | r => r := rfl
@[simp ↓] theorem dSkip_ap (e : En) (m : Mu) : dSkip  e m = .nx e m := rfl
@[simp ↓] theorem dRet_ap (t : DE) (e : En) (m : Mu) : dRet  t e m = rsOf e (t e m) fun d m1 => .rt d m1 := rfl
@[simp ↓] theorem dStuck_ap (x_0 : En) (x_1 : Mu) : dStuck  x_0 x_1 = .stuck := rfl
@[simp ↓] theorem dDrop_ap (t : DE) (e : En) (m : Mu) : dDrop  t e m = rsOf e (t e m) fun _ m1 => .nx e m1 := rfl
@[simp ↓] theorem dSet_ap (i : Nat) (t : DE) (e : En) (m : Mu) : dSet  i t e m = rsOf e (t e m) fun d m1 => .nx (e.set i (some d)) m1 := rfl
@[simp ↓] theorem dIfS_ap (t : DT) (u w : DS) (e : En) (m : Mu) : dIfS  t u w e m = rsOfB e (t e m) fun b m1 => if b then u e m1 else w e m1 := rfl
@[simp ↓] theorem dName_ap (i : Nat) (d : D) (e : En) : dName  i d e = some (e.set i (some d)) := rfl
@[simp ↓] theorem dGnil_ap (ds : List D) (e : En) : dGnil  ds e = match ds with
  | [] => some e
  | _ => none := rfl
@[simp ↓] theorem dGcons_ap (g : DG) (h : List D → En → Option En) (ds : List D) (e : En) : dGcons  g h ds e = match ds with
  | d :: r => (g d e).bind fun e1 => h r e1
  | [] => none := rfl
@[simp ↓] theorem dTupG_ap (n : Nat) (g : List D → En → Option En) (d : D) (e : En) : dTupG  n g d e = match d with
  | .tup ds => if ds.length = n then g ds e else none
  | _ => none := rfl
@[simp ↓] theorem dAsg_ap (t : DE) (g : DG) (e : En) (m : Mu) : dAsg  t g e m = rsOf e (t e m) fun d m1 => match g d e with
  | some e1 => .nx e1 m1
  | none => .stuck := rfl
@[simp ↓] theorem dPar_ap (i j : Nat) (t : DA) (e : En) (m : Mu) : dPar  i j t e m = match t e m with
  | .ok [x, y] m1 => .nx ((e.set i (some x)).set j (some y)) m1
  | .exc C fs m1 => .exc C fs e m1
  | _ => .stuck := rfl
@[simp ↓] theorem dItL_ap (t : DE) (e : En) (m : Mu) : dItL  t e m = (t e m).bind fun d m1 => match d with
  | .lst ds => .ok ds m1
  | _ => .stuck := rfl
@[simp ↓] theorem dItT_ap (t : DE) (e : En) (m : Mu) : dItT  t e m = (t e m).bind fun d m1 => match d with
  | .tup ds => .ok ds m1
  | _ => .stuck := rfl
@[simp ↓] theorem dItR1_ap (t : DA) (e : En) (m : Mu) : dItR1  t e m = (t e m).bind fun ds m1 => match ds with
  | [.int j] => if -(2 ^ 62) ≤ j ∧ j < 2 ^ 62 then .ok (rngD 0 j.toNat) m1 else .stuck
  | _ => .stuck := rfl
@[simp ↓] theorem dItR2_ap (t : DA) (e : En) (m : Mu) : dItR2  t e m = (t e m).bind fun ds m1 => match ds with
  | [.int i, .int j] => if -(2 ^ 62) ≤ i ∧ i < 2 ^ 62 ∧ -(2 ^ 62) ≤ j ∧ j < 2 ^ 62 then .ok (rngD i (j - i).toNat) m1 else .stuck
  | _ => .stuck := rfl
@[simp ↓] theorem dItE_ap (t : DA) (e : En) (m : Mu) : dItE  t e m = (t e m).bind fun ds m1 => match ds with
  | [.lst es] => .ok ((List.range es.length).zipWith (fun k d => .tup [.int (k : Nat), d]) es) m1
  | _ => .stuck := rfl
@[simp ↓] theorem dItZ_ap (t : DA) (e : En) (m : Mu) : dItZ  t e m = (t e m).bind fun ds m1 => match ds with
  | [.lst xs, .lst ys] => .ok (xs.zipWith (fun x y => .tup [x, y]) ys) m1
  | [.tup xs, .tup ys] => .ok (xs.zipWith (fun x y => .tup [x, y]) ys) m1
  | _ => .stuck := rfl
@[simp ↓] theorem dFor_ap (t : DA) (g : DG) (b : DS) (e : En) (m : Mu) : dFor  t g b e m = match t e m with
  | .ok ds m1 => dLoop g b ds e m1
  | .exc C fs m1 => .exc C fs e m1
  | .stuck => .stuck := rfl
@[simp ↓] theorem dComp_ap (t : DA) (g : DG) (c : DT) (b : DE) (own : List Nat) (e : En) (m : Mu) : dComp  t g c b own e m = (t e m).bind fun ds m1 => (dCompL g c b (wipeE e own) ds m1 []).bind fun xs m2 => .ok (.lst xs) m2 := rfl
@[simp ↓] theorem dYes_ap (x_0 : En) (m : Mu) : dYes  x_0 m = .ok true m := rfl
@[simp ↓] theorem dPutI_ap (tv to ti : DE) (e : En) (m : Mu) : dPutI  tv to ti e m = rsOf e (tv e m) fun v m1 => rsOf e (to e m1) fun o m2 => rsOf e (ti e m2) fun i m3 => match o, i with
  | .loc n, .int k => match m3[n]? with
    | some (.lst ds) => match ixN ds.length k with
      | some j => .nx e (m3.set n (.lst (ds.set j v)))
      | none => .stuck
    | _ => .stuck
  | _, _ => .stuck := rfl
@[simp ↓] theorem dPutF_ap (Cs : List Addr) (f : Str) (tv to : DE) (e : En) (m : Mu) : dPutF  Cs f tv to e m = rsOf e (tv e m) fun v m1 => rsOf e (to e m1) fun o m2 => match o with
  | .loc n => match m2[n]? with
    | some (.ins C fs) => if C ∈ Cs ∧ fs.length < 1000 then .nx e (m2.set n (.ins C (putD f v fs))) else .stuck
    | _ => .stuck
  | _ => .stuck := rfl
@[simp ↓] theorem dIsi_ap (A : Ans) (ta : DE) (e : En) (m : Mu) : dIsi  A ta e m = (ta e m).bind fun d m1 => match (tagOf m1 d).bind A.get with
  | some b => .ok (.bl b) m1
  | none => .stuck := rfl
@[simp ↓] theorem dFunK_ap (G : DFn) (n nk : Nat) (t u : DA) (e : En) (m : Mu) : dFunK  G n nk t u e m = (t e m).bind fun ds m1 => (u e m1).bind fun zs m2 => if ds.length = n ∧ zs.length = nk then G (ds ++ zs) m2 else .stuck := rfl
@[simp ↓] theorem dPar3_ap (i j l : Nat) (t : DA) (e : En) (m : Mu) : dPar3  i j l t e m = match t e m with
  | .ok [x, y, z] m1 => .nx (((e.set i (some x)).set j (some y)).set l (some z)) m1
  | .exc C fs m1 => .exc C fs e m1
  | _ => .stuck := rfl
@[simp ↓] theorem bind_pre {α β : Type} (r : Res α) (f : α → Mu → Res β) : r.bind f = match r with
  | .stuck => .stuck
  | .ok a m => f a m
  | .exc C fs m => .exc C fs m := rfl
@[simp ↓] theorem rsOf_pre (e : En) (r : Res D) (k : D → Mu → RS) : rsOf e r k = match r with
  | .stuck => .stuck
  | .ok d m => k d m
  | .exc C fs m => .exc C fs e m := rfl
@[simp ↓] theorem rsOfB_pre (e : En) (r : Res Bool) (k : Bool → Mu → RS) : rsOfB e r k = match r with
  | .stuck => .stuck
  | .ok d m => k d m
  | .exc C fs m => .exc C fs e m := rfl
@[simp] theorem gIx_lst (m : Mu) (ds : List D) (i : Int) : gIx (.lst ds) (.int i) m = match atI ds i with
  | some d => .ok d m
  | none => .stuck := rfl
@[simp] theorem gIx_tup (m : Mu) (ds : List D) (i : Int) : gIx (.tup ds) (.int i) m = match atI ds i with
  | some d => .ok d m
  | none => .stuck := rfl
@[simp] theorem gEq_int (m : Mu) (i j : Int) : gEq (.int i) (.int j) m = .ok (.bl (decide (i = j))) m := by simp [gEq, scEq]
@[simp] theorem gNe_int (m : Mu) (i j : Int) : gNe (.int i) (.int j) m = .ok (.bl (!decide (i = j))) m := by simp [gNe, scEq]
@[simp] theorem gEq_bl (m : Mu) (i j : Bool) : gEq (.bl i) (.bl j) m = .ok (.bl (i == j)) m := by simp [gEq, scEq]
@[simp] theorem gNe_bl (m : Mu) (i j : Bool) : gNe (.bl i) (.bl j) m = .ok (.bl (!(i == j))) m := by simp [gNe, scEq]
@[simp] theorem gEq_str (m : Mu) (i j : Str) : gEq (.str i) (.str j) m = .ok (.bl (decide (i = j))) m := by simp [gEq, scEq]
@[simp] theorem gNe_str (m : Mu) (i j : Str) : gNe (.str i) (.str j) m = .ok (.bl (!decide (i = j))) m := by simp [gNe, scEq]
@[simp] theorem powOk_def (i j : Int) : powOk i j = decide (0 ≤ j ∧ j ≤ 1000000 ∧ i.natAbs < 2 ^ 64) := rfl
@[simp] theorem ixN_lit (n : Nat) (i : Nat) : ixN n (no_index (@OfNat.ofNat Int i _)) = if i < n then some i else none := by
  have e : (@OfNat.ofNat Int i _) = (i : Int) := rfl
  unfold ixN
  rw [e, if_pos (by omega)]
  by_cases h : i < n
  · rw [if_pos (by omega), if_pos h, Int.toNat_natCast]
  · rw [if_neg (by omega), if_neg h]
@[simp] theorem rsOf_ok (e : En) (d : D) (m : Mu) (k : D → Mu → RS) : rsOf e (.ok d m) k = k d m := rfl
@[simp] theorem rsOf_exc (e : En) (C : Addr) (fs : List (Str × D)) (m : Mu) (k : D → Mu → RS) : rsOf e (.exc C fs m) k = .exc C fs e m := rfl
@[simp] theorem rsOfB_ok (e : En) (d : Bool) (m : Mu) (k : Bool → Mu → RS) : rsOfB e (.ok d m) k = k d m := rfl
@[simp] theorem rsOfB_exc (e : En) (C : Addr) (fs : List (Str × D)) (m : Mu) (k : Bool → Mu → RS) : rsOfB e (.exc C fs m) k = .exc C fs e m := rfl
@[simp] theorem seqL_lst (m : Mu) (ds : List D) : seqL m (.lst ds) = some ds := rfl
@[simp] theorem seqA_lst (m : Mu) (ds : List D) : seqA m (.lst ds) = some ds := rfl
@[simp] theorem seqA_tup (m : Mu) (ds : List D) : seqA m (.tup ds) = some ds := rfl
@[simp] theorem seqA_loc (m : Mu) (n : Nat) : seqA m (.loc n) = match m[n]? with
  | some (.lst ds) => some ds
  | _ => none := by
  simp only [seqA, seqL]
  cases m[n]? with
  | none => rfl
  | some o => cases o <;> rfl
@[simp] theorem gIx_loc (m : Mu) (n : Nat) (i : Int) : gIx (.loc n) (.int i) m = match m[n]? with
  | some (.lst ds) => (match atI ds i with
    | some d => .ok d m
    | none => .stuck)
  | _ => .stuck := by
  have h : gIx (.loc n) (.int i) m = match seqA m (.loc n) with
    | some ds => (match atI ds i with
      | some d => .ok d m
      | none => .stuck)
    | none => .stuck := rfl
  rw [h, seqA_loc]
  cases m[n]? with
  | none => rfl
  | some o => cases o <;> rfl
@[simp] theorem insOf_obj (m : Mu) (c : Kl) (ds : List D) : insOf m (.obj c ds) = some (c.a, c.ns, ds) := rfl
@[simp] theorem insOf_loc (m : Mu) (n : Nat) : insOf m (.loc n) = match m[n]? with
  | some (.ins C fs) => some (C, fs.map (·.1), fs.map (·.2))
  | _ => none := rfl
@[simp] theorem fldAt_nil (C : Addr) (ns : List Str) (ds : List D) : fldAt [] C ns ds = none := rfl
@[simp] theorem fldAt_cons (c : Kl) (i : Nat) (rest : List (Kl × Nat)) (C : Addr) (ns : List Str) (ds : List D) : fldAt ((c, i) :: rest) C ns ds = if C = c.a ∧ ns = c.ns then ds[i]? else fldAt rest C ns ds := rfl
@[simp] theorem methAt_nil (C : Addr) (ns : List Str) : methAt [] C ns = none := rfl
@[simp] theorem methAt_cons (c : Kl) (G : DFn) (rest : List (Kl × DFn)) (C : Addr) (ns : List Str) : methAt ((c, G) :: rest) C ns = if C = c.a ∧ ns = c.ns then some G else methAt rest C ns := rfl
@[simp] theorem noExc_ok (d : D) (m : Mu) : noExc (.ok d m) = .ok d m := rfl
@[simp] theorem dLoop_nil (g : DG) (b : DS) (e : En) (m : Mu) : dLoop g b [] e m = .nx e m := rfl
@[simp] theorem dCompL_nil (g : DG) (c : DT) (b : DE) (e : En) (m : Mu) (acc : List D) : dCompL g c b e [] m acc = .ok acc m := rfl
@[simp] theorem wipeE_nil (e : En) : wipeE e [] = e := rfl
@[simp] theorem wipeE_cons (e : En) (v : Nat) (vs : List Nat) : wipeE e (v :: vs) = (wipeE e vs).set v none := rfl
@[simp] theorem atI_nat {α : Type} (xs : List α) (i : Nat) : atI xs (i : Int) = xs[i]? := by
  unfold atI ixN
  rw [if_pos (by omega)]
  by_cases h : i < xs.length
  · rw [if_pos (by omega)]; simp
  · rw [if_neg (by omega)]; simp; omega
@[simp] theorem atI_lit {α : Type} (xs : List α) (i : Nat) : atI xs (no_index (@OfNat.ofNat Int i _)) = xs[i]? := atI_nat xs i

end
end DL

namespace DL
open PySem PySem.Spec PyProof.Rows L2
variable [LamTab]
theorem dCompL_map {g : DG} {c : DT} {b : DE} {e : En} {m : Mu} (f : D → D) : ∀ (ds acc : List D), (∀ d ∈ ds, ∃ e1, g d e = some e1 ∧ c e1 m = .ok true m ∧ b e1 m = .ok (f d) m) → acc.length + ds.length ≤ sizeLine → dCompL g c b e ds m acc = .ok (acc ++ ds.map f) m
  | [], acc, _, _ => by simp
  | d :: ds, acc, h, hl => by
    obtain ⟨e1, h1, h2, h3⟩ := h d (by simp)
    have ih := dCompL_map f ds (acc ++ [f d]) (fun x hx => h x (by simp [hx])) (by simp at hl ⊢; omega)
    unfold dCompL
    rw [h1]
    simp only [h2, h3]
    rw [if_pos (by simp at hl; omega), ih]
    simp
theorem dCompL_filter {g : DG} {c : DT} {b : DE} {e : En} {m : Mu} (p : D → Bool) (f : D → D) : ∀ (ds acc : List D), (∀ d ∈ ds, ∃ e1, g d e = some e1 ∧ c e1 m = .ok (p d) m ∧ (p d = true → b e1 m = .ok (f d) m)) → acc.length + ds.length ≤ sizeLine → dCompL g c b e ds m acc = .ok (acc ++ (ds.filter p).map f) m
  | [], acc, _, _ => by simp
  | d :: ds, acc, h, hl => by
    obtain ⟨e1, h1, h2, h3⟩ := h d (by simp)
    unfold dCompL
    rw [h1]
    simp only [h2]
    cases hp : p d with
    | true =>
      have ih := dCompL_filter p f ds (acc ++ [f d]) (fun x hx => h x (by simp [hx])) (by simp at hl ⊢; omega)
      simp only [h3 hp]
      rw [if_pos (by simp at hl; omega), ih]
      simp [hp]
    | false =>
      have ih := dCompL_filter p f ds acc (fun x hx => h x (by simp [hx])) (by simp at hl ⊢; omega)
      simp only []
      rw [ih]
      simp [hp]
/-- a loop keeps I, each pass goes on -/
theorem dLoop_inv {g : DG} {b : DS} (I : En → Mu → Prop) : ∀ (ds : List D) (e : En) (m : Mu), (∀ d ∈ ds, ∀ e m, I e m → ∃ e1 e2 m2, g d e = some e1 ∧ b e1 m = .nx e2 m2 ∧ I e2 m2) → I e m → ∃ e2 m2, dLoop g b ds e m = .nx e2 m2 ∧ I e2 m2
  | [], e, m, _, h => ⟨e, m, rfl, h⟩
  | d :: ds, e, m, hs, h => by
    obtain ⟨e1, e2, m2, h1, h2, h3⟩ := hs d (by simp) e m h
    obtain ⟨e3, m3, h4, h5⟩ := dLoop_inv I ds e2 m2 (fun x hx => hs x (by simp [hx])) h3
    refine ⟨e3, m3, ?_, h5⟩
    unfold dLoop
    rw [h1]
    simp only [h2]
    exact h4
/-- the same, I knows what was walked -/
theorem dLoop_inv2 {g : DG} {b : DS} (I : List D → En → Mu → Prop) : ∀ (ds pre : List D) (e : En) (m : Mu), (∀ pre d post, pre ++ d :: post = pre ++ d :: post → ∀ e m, I pre e m → d ∈ ds → ∃ e1 e2 m2, g d e = some e1 ∧ b e1 m = .nx e2 m2 ∧ I (pre ++ [d]) e2 m2) → I pre e m → ∃ e2 m2, dLoop g b ds e m = .nx e2 m2 ∧ I (pre ++ ds) e2 m2
  | [], pre, e, m, _, h => ⟨e, m, rfl, by simpa using h⟩
  | d :: ds, pre, e, m, hs, h => by
    obtain ⟨e1, e2, m2, h1, h2, h3⟩ := hs pre d ds rfl e m h (by simp)
    obtain ⟨e3, m3, h4, h5⟩ := dLoop_inv2 I ds (pre ++ [d]) e2 m2 (fun p x q hx e m hi hm => hs p x q hx e m hi (by simp [hm])) h3
    refine ⟨e3, m3, ?_, by simpa using h5⟩
    unfold dLoop
    rw [h1]
    simp only [h2]
    exact h4
/-- plain data of bounded depth: what _law_like may meet -/
def plainD : Nat → D → Prop
  | 0, _ => False
  | _ + 1, .non => True
  | _ + 1, .bl _ => True
  | _ + 1, .int _ => True
  | _ + 1, .str _ => True
  | n + 1, .tup ds => ds.length ≤ sizeLine ∧ ∀ d ∈ ds, plainD n d
  | n + 1, .lst ds => ds.length ≤ sizeLine ∧ ∀ d ∈ ds, plainD n d
  | _ + 1, _ => False
theorem toBs_trues : ∀ n : Nat, toBs (List.replicate n (.bl true)) = some (List.replicate n true)
  | 0 => rfl
  | n + 1 => by simp [List.replicate_succ, toBs, toBs_trues n]
theorem toBs_map (f : D → Bool) : ∀ ds : List D, toBs (ds.map fun d => .bl (f d)) = some (ds.map f)
  | [] => rfl
  | d :: ds => by simp [toBs, toBs_map f ds]
end DL

namespace DL
open PySem PySem.Spec PyProof.Rows L2
variable [LamTab]
section
variable {X : Cx} {a b c e o : Expr} {es : List Expr} {ta tb tc : DE} {t : DA} {pos : Pos} {k : Nat}
/-! ### a list and a list -/
theorem op_catS : OpR X (binaryOp .Add) (fun x y H Q => ∃ l b xs zs, x = .ref l ∧ y = .ref b ∧ SqL X.K H l xs ∧ SqL X.K H b zs ∧ xs.length + zs.length ≤ sizeLine ∧ ∀ p, H p = none → Q (.ref p) (upd H p (.lst (xs ++ zs)))) := by
  intro pins s σ H x y v u Q I rx ry h
  obtain ⟨l, b, xs, zs, rfl, rfl, hH, hB, hz, q⟩ := h
  cases rx
  cases ry
  obtain ⟨its, r1, ⟨⟨cls, dd, data, sl⟩, n, e1, hc1, hd1, hs1⟩, _⟩ := I.list hH
  obtain ⟨its2, r2, ⟨⟨cls2, dd2, data2, sl2⟩, n2, e2, hc2, hd2, hs2⟩, _⟩ := I.list hB
  simp only at hc1 hs1 hc2 hs2
  subst hc1 hs1 hc2 hs2
  have l1 := r1.length
  have l2 := r2.length
  have ea : its.toArray ++ its2.toArray = (its ++ its2).toArray := by simp
  refine concat_meets ⟨_, e1, rfl⟩ ⟨_, e2, rfl⟩ noFill_list_add seq_list_add PySem.F.slot_list_add PySem.F.entry_list_add (PySem.F.args_list_add_2 _ _) (list_addW l b its.toArray its2.toArray n n2 dd dd2 sl sl2 (by simp; omega)) ⟨e1, e2, ?_⟩
  rw [ea]
  exact ⟨.ref _, _, I.lnew (t' := s.toks) (r1.append r2) (by rw [List.length_append]; omega), rfl, q _ I.fresh⟩
def gCat : D2 := fun x y m => match seqL m x, seqL m y with
  | some xs, some ys => if xs.length + ys.length ≤ sizeLine then .ok (.lst (xs ++ ys)) m else .stuck
  | _, _ => .stuck
theorem od_cat : OD X (binaryOp .Add) gCat := by
  refine od_of op_catS fun S m x y vx vy Q W sa rx ry p => ?_
  unfold gCat at p
  split at p
  · rename_i xs ys e1 e2
    split at p
    · rename_i hl
      obtain ⟨l, us, rfl, h1, r1⟩ := seqL_ok sa rx e1
      obtain ⟨l2, ws, rfl, h2, r2⟩ := seqL_ok sa ry e2
      refine ⟨l, l2, us, ws, rfl, rfl, h1, h2, by rw [← r1.len, ← r2.len]; exact hl, fun p' hp => ?_⟩
      have st1 := Stp.new sa (o := .lst (us ++ ws)) hp
      exact p (.ref p') (S.new p' (.lst (us ++ ws))) st1 (sa.new hp) (.lst (.inl (.inl upd_same)) ((r1.append r2).stp st1))
    · exact p.elim
  · exact p.elim
/-- the same into the store -/
def gCatM : D2 := fun x y m => match seqL m x, seqL m y with
  | some xs, some ys => if xs.length + ys.length ≤ sizeLine then .ok (.loc m.length) (m ++ [.lst (xs ++ ys)]) else .stuck
  | _, _ => .stuck
theorem od_catM : OD X (binaryOp .Add) gCatM := by
  refine od_of op_catS fun S m x y vx vy Q W sa rx ry p => ?_
  unfold gCatM at p
  split at p
  · rename_i xs ys e1 e2
    split at p
    · rename_i hl
      obtain ⟨l, us, rfl, h1, r1⟩ := seqL_ok sa rx e1
      obtain ⟨l2, ws, rfl, h2, r2⟩ := seqL_ok sa ry e2
      refine ⟨l, l2, us, ws, rfl, rfl, h1, h2, by rw [← r1.len, ← r2.len]; exact hl, fun p' hp => ?_⟩
      have st1 := Stp.tok sa (o := .lst (us ++ ws)) hp
      refine p (.ref p') (S.tok p' (.lst (us ++ ws))) st1 (sa.tok hp (q := .lst (xs ++ ys)) ⟨us ++ ws, upd_same, (r1.append r2).stp st1⟩) (.loc ?_)
      show (S.i ++ [p'])[m.length]? = some p'
      rw [← sa.len, List.getElem?_append_right (Nat.le_refl _), Nat.sub_self]
      rfl
    · exact p.elim
  · exact p.elim
/-! ### truth of own objects -/
abbrev MRow (P : Program) (w : World) (K : PySem.W.Frag) (mg : Str → Option Value) (base : Heap) (k : Nat) (mn : Str) : Kl → DFn → Prop := fun c G => MT P w K mg base k mn c.a G
def dTrO (rows : List (Kl × DFn)) (t : DE) : DT := fun e m => (t e m).bind fun d m => match dTru m d with
  | some b => .ok b m
  | none => match insOf m d with
    | some (C, ns, _) => match methAt rows C ns with
      | some G => (G [d] m).bind fun r m => match r with
        | .bl b => .ok b m
        | _ => .stuck
      | none => .stuck
    | none => .stuck
theorem boolBack {pins : List (Addr × Obj)} {σ : L2.St} {Q : Bool → Shared → Prop} {v : Value} {s : Shared} (h : EP X pins σ (fun v H => ∃ b, v = .bl b ∧ ∀ s, Inv X pins σ H s → Q b s) v s) : PySem.W.BoolBack Q v s := by
  obtain ⟨y, H, I, r, b, rfl, q⟩ := h
  cases r
  exact q s I
theorem pdt_truthO {rows : List (Kl × DFn)} (ha : PDE X a ta) (hrows : ∀ r ∈ rows, MRow X.prog X.w X.K X.mg X.base k "__bool__" r.1 r.2) (hr : Room k X.A) (he : ∀ whole, isTrue a X.env whole = (do let v ← whole; standAt a.pos; holding [v] (truthy v)) := by intro _; rfl) : PDT X a (dTrO rows ta) := by
  intro S r m σ Q sa re p pins s I
  refine isTrue_plain (thn (ha.run sa re p I) ?_) (he _)
  rintro u s1 ⟨x, d, m1, T, st, sa1, rd, rx, I1, q⟩
  split at q
  · rename_i b e
    exact tru_ok pins s1 σ T.H x u Q I1 rx ⟨b, dTru_ok sa1 rd e, Post.ok q (Stp.refl T) sa1 rfl⟩
  · split at q
    · rename_i C ns ds ei
      split at q
      · rename_i G eG
        obtain ⟨c, ok, rfl, rfl⟩ := methAt_ok (P := MRow X.prog X.w X.K X.mg X.base k "__bool__") hrows eG
        obtain ⟨a, dx, vs, rfl, h1, h2, h3⟩ := insOf_ok sa1 rd ei
        obtain ⟨f, fd, ps, dds, G0, hf1, hf2, hk, hf, hb, rfl⟩ := ok.ex
        obtain rfl : u = Value.ref a := rx
        obtain ⟨od1, J1⟩ := Inv.inst I1 h1
        obtain ⟨mm, F⟩ := I1.fr
        refine PySem.W.truthy_K F I1.ok.mod.kin J1 hf1 hf2 (thn (run_fnA (us := [.ref a]) hf hr hb rfl I1 sa1 (.cons rd .nil) (.cons rfl .nil) (Post.bindI q fun r m2 v U st2 sa2 rv q2 => ?_)) fun v s2 h => boolBack (pins := pins) (σ := σ) h)
        cases rv with
        | bl b => exact ⟨b, rfl, fun s I => ⟨U.H, I, Post.ok q2 (Stp.refl U) sa2 rfl⟩⟩
        | _ => exact (show False from q2).elim
      · exact (show False from q).elim
    · exact (show False from q).elim
end
end DL

namespace DL
open PySem PySem.Spec PySem.Calls PyProof.Rows L2
variable [LamTab]
open PySem.W (InstAt findIn isFn mroIn)
/-! ### != by the default, which asks == -/
section
variable {prog : Program} {w : World} {A : Around} {E : Value → Shared → Prop} {s : Shared} {K : PySem.W.Frag} {x C L f : Addr} {h₀ : Heap} {m : Str → Option Value} {ox : Obj} {od : Option Obj} {b tb : Value}
theorem ifBound_S {M : Model} {name : Str} {id : String} {args : List Value} {Q : Option Value → Shared → Prop} (X : K.In s.heap) (I : InstAt s.heap x ox C od) (hs : findIn K (.ref C) name = some (some (.builtin id)))
    (hb : ∀ self, bindSpecial (.builtin id) self = pure (.builtin id, [self])) (h : wpAny M A (call (.builtin id) (.ref x :: args)) (fun v => Q (some v)) E s) : wpAny M A (callSpecialIfBound? (.ref x) name args) Q E s := by
  simp only [callSpecialIfBound?, bindSpecialIfBound?]
  refine wpAny_holding (wpAny_bind (wpAny_bind (wpAny_bind (I.type.here ((PySem.W.looks_findIn X hs).here ?_)))))
  refine wpAny_bind (wpAny_askSetting (wpAny_ite ?_))
  have fin : wpAny M A (call (.builtin id) ([.ref x] ++ args) >>= fun v => pure (some v)) Q E s := wpAny_bind (wpAny_mono h (fun v s' h' => wpAny_pure h') fun _ _ h' => h')
  split
  · exact wpAny_bind ((PySem.W.Looks.of_pure (hb _)).here (wpAny_pure (by exact fin)))
  · exact wpAny_tryCatch (wpAny_bind ((PySem.W.Looks.of_pure (hb _)).here (wpAny_pure (by exact fin))))
theorem ne_K {Q : Value → Shared → Prop} (hu : A.units + 1 < cLine) (F : Fr h₀ L s.heap m) (X₀ : K.In h₀) (I : InstAt s.heap x ox C od) (hb : PySem.W.Looks (model prog w) s.heap (typeOf b) tb) (hn : PySem.W.notFirst K C tb = true)
    (hne : findIn K (.ref C) "__ne__" = some (some (.builtin "object.__ne__"))) (hm : mroIn K C (.type "object") = some true)
    (hs : findIn K (.ref C) "__eq__" = some (some (.ref f))) (hf : isFn K (.ref f) = true)
    (h : wpAny (model prog w) A.in1 (call (.ref f) [.ref x, b]) (fun v s' => ∃ r, v = .bool r ∧ Q (.bool (!r)) s') E s) : wpAny (model prog w) A (richCompare .NotEq (.ref x) b) Q E s := by
  have X := X₀.keeps F.keep
  have one : wpAny (model prog w) A (tryCompare (.ref x) (cmpInfo .NotEq).2.1 b) (fun r s' => ∃ v, r = some v ∧ Q v s') E s := by
    unfold tryCompare
    refine wpAny_bind (ifBound_S X I hne PySem.F.slot_object_ne.bind ?_)
    refine wpAny_call (codeAny_call_builtin PySem.F.slot_object_ne.plain PySem.F.entry_object_ne (PySem.W.check_slot (i := "object.__ne__") (owner := "object") (n := "__ne__") (by decide +kernel) (by decide +kernel) (I.type.andThen (PySem.W.looks_mroIn X hm)) (PySem.F.args_object_ne_2 _ _) ?_))
    unfold Builtin.«object.__ne__»
    refine wpAny_bind (m := slotArgs "__ne__" 1 _) (wpAny_pure ?_)
    refine wpAny_bind (m := cRoomFor _ _) (wpAny_cRoomFor (by show A.units + 1 < cLine; exact hu) ?_)
    refine wpAny_bind (m := callSpecialIfBound? (.ref x) "__eq__" _) (PySem.W.ifBound_K X I hs hf (wpAny_mono h (fun r s' hq => ?_) fun _ _ y => y))
    obtain ⟨r, rfl, q⟩ := hq
    refine wpAny_bind (wpAny_truthy_bool ?_)
    exact wpAny_pure (wpAny_pure ⟨_, rfl, q⟩)
  unfold richCompare
  simp only [oneThing_ref]
  refine wpAny_holding (wpAny_bind (wpAny_cRoomFor (by omega) ?_))
  refine wpAny_bind (I.type.here (wpAny_bind (hb.here ?_)))
  split
  · rename_i q
    have e : PySem.W.subIn K tb (.ref C) = some false := by
      rcases Bool.or_eq_true_iff.mp hn with e | e
      · rw [beq_iff_eq.mp e] at q; simp at q
      · exact beq_iff_eq.mp e
    refine wpAny_bind ((PySem.W.looks_subIn X e).here ?_)
    simp only [Bool.false_eq_true, if_false]
    refine wpAny_bind (wpAny_mono one (fun r s' z => ?_) fun _ _ e => e)
    obtain ⟨v, rfl, hq⟩ := z
    exact wpAny_pure hq
  · refine wpAny_bind (wpAny_pure ?_)
    simp only [Bool.false_eq_true, if_false]
    refine wpAny_bind (wpAny_mono one (fun r s' z => ?_) fun _ _ e => e)
    obtain ⟨v, rfl, hq⟩ := z
    exact wpAny_pure hq
end
section
variable {X : Cx} {a b c e o : Expr} {es : List Expr} {ta tb tc : DE} {t : DA} {pos : Pos} {k : Nat}
theorem tag_looks {pins : List (Addr × Obj)} {σ : L2.St} {s : Shared} {S : Wd} {m : Mu} {d : D} {v : V} {u : Value} {t : Tg} (I : Inv X pins σ S.H s) (sa : Sta X.K S m) (r : Rep X.K S.i S.F d v) (rv : RelV v u) (ht : tagOf m d = some t) :
    PySem.W.Looks (model X.prog X.w) s.heap (typeOf u) t.val := by
  have pr : ∀ {ty : Value}, TyX X.K S.H v ty → PySem.W.Looks (model X.prog X.w) s.heap (typeOf u) ty := fun ty => by
    obtain ⟨P, Z, p, _⟩ := kit_of I rv ty
    exact Z.ty _ _ I.kIn p
  have ow : ∀ {a C dx : Addr} {fs : List (Str × V)}, v = .ref a → S.H a = some (.ins C dx fs) → PySem.W.Looks (model X.prog X.w) s.heap (typeOf u) (.ref C) := fun {a C dx fs} e h => by
    subst e
    obtain rfl : u = Value.ref a := rv
    obtain ⟨od, J⟩ := Inv.inst I h
    exact J.type
  cases r with
  | non => cases ht; exact pr (.base .non)
  | bl x => cases ht; exact pr (.base (.bl x))
  | int x => cases ht; exact pr (.base (.int x))
  | str x => cases ht; exact pr (.base (.str x))
  | tup h1 h2 => cases ht; exact pr (SqT.tyx (SqT.ext' h1 sa.sub))
  | lst h1 h2 => cases ht; exact pr (SqL.tyx (SqL.ext' h1 sa.sub))
  | obj h1 h2 h3 => cases ht; exact ow rfl (sa.sub _ _ h1)
  | @loc n a h =>
    unfold tagOf at ht
    dsimp only at ht
    split at ht
    · rename_i ds e
      cases ht
      obtain ⟨xs, q1, q2⟩ := sa.ok n a _ h e
      exact pr (.base (.lst q1))
    · rename_i C fs e
      cases ht
      obtain ⟨dx, vs, q1, q2⟩ := sa.ok n a _ h e
      exact ow rfl q1
    · cases ht
  | val v => cases ht
  | xob h1 h2 h3 => cases ht
  | lam h => cases ht
  | clo h h2 h3 => cases ht
/-! ### == and != by an own __eq__ -/
def eqRow (rows : List (Kl × DFn × List Tg)) (C : Addr) (ns : List Str) : Option (DFn × List Tg) := match rows with
  | [] => none
  | (c, G) :: rest => if C = c.a ∧ ns = c.ns then some G else eqRow rest C ns
theorem eqRow_ok {P : Kl × DFn × List Tg → Prop} : ∀ {rows : List (Kl × DFn × List Tg)} {C : Addr} {ns : List Str} {G : DFn × List Tg}, (∀ r ∈ rows, P r) → eqRow rows C ns = some G → ∃ c, P (c, G) ∧ C = c.a ∧ ns = c.ns
  | [], _, _, _, _, h => by cases h
  | (c, i) :: rest, C, ns, d, hr, h => by
    unfold eqRow at h
    split at h
    · rename_i e
      cases h
      exact ⟨c, hr _ List.mem_cons_self, e.1, e.2⟩
    · exact eqRow_ok (fun r hm => hr r (List.mem_cons_of_mem _ hm)) h
structure EqOk (P : Program) (w : World) (K : PySem.W.Frag) (mg : Str → Option Value) (base : Heap) (k : Nat) (r : Kl × DFn × List Tg) : Prop where
  mt : MT P w K mg base k "__eq__" r.1.a r.2.1
  nf : ∀ t ∈ r.2.2, PySem.W.notFirst K r.1.a t.val = true
structure NeOk (K : PySem.W.Frag) (C : Addr) : Prop where
  ne : findIn K (.ref C) "__ne__" = some (some (.builtin "object.__ne__"))
  ob : mroIn K C (.type "object") = some true
def dOwnEq (neg : Bool) (rows : List (Kl × DFn × List Tg)) : D2 := fun x y m => match insOf m x with
  | some (C, ns, _) => match eqRow rows C ns, tagOf m y with
    | some (G, ts), some t => if t ∈ ts then ((G [x, y] m).bind fun r m1 => match r with
        | .bl b => .ok (.bl (neg ^^ b)) m1
        | _ => .stuck) else .stuck
    | _, _ => .stuck
  | none => .stuck
theorem od_ownEq {rows : List (Kl × DFn × List Tg)} (hrows : ∀ r ∈ rows, EqOk X.prog X.w X.K X.mg X.base k r) (hr : Room k X.A) : OD X (compareOp .Eq) (dOwnEq false rows) := by
  intro pins s σ S m x y vx vy u w Q sa rx ry I hu hw p
  unfold dOwnEq at p
  split at p
  · rename_i C ns ds ei
    split at p
    · rename_i G ts t eG eT
      split at p
      · rename_i ht
        obtain ⟨c, ok, rfl, rfl⟩ := eqRow_ok (P := EqOk X.prog X.w X.K X.mg X.base k) hrows eG
        obtain ⟨a, dx, vs, rfl, h1, h2, h3⟩ := insOf_ok sa rx ei
        obtain ⟨f, fd, ps, dds, G0, hf1, hf2, hk, hf, hb, rfl⟩ := ok.mt.ex
        obtain rfl : u = Value.ref a := hu
        obtain ⟨od1, J1⟩ := Inv.inst I h1
        obtain ⟨mm, F⟩ := I.fr
        refine PySem.W.cmp_K (op := .Eq) hr.units0 F I.ok.mod.kin J1 (tag_looks I sa ry hw eT) (ok.nf t ht) hf1 hf2 (thn (run_fnA (us := [.ref a, w]) hf hr hb rfl I sa (.cons rx (.cons ry .nil)) (.cons rfl (.cons hw .nil)) (Post.bindI p fun r m2 v U st2 sa2 rv q2 => ?_)) fun v s1 h => cmpBack_of h fun h => h)
        cases rv with
        | bl b => (dsimp only at q2; rw [Bool.false_xor] at q2); exact Post.ok q2 (Stp.refl U) sa2 (.bl b)
        | _ => exact (show False from q2).elim
      · exact p.elim
    · exact p.elim
  · exact p.elim
theorem od_ownNe {rows : List (Kl × DFn × List Tg)} (hrows : ∀ r ∈ rows, EqOk X.prog X.w X.K X.mg X.base k r) (hne : ∀ r ∈ rows, NeOk X.K r.1.a) (hr : Room (k + 1) X.A) : OD X (compareOp .NotEq) (dOwnEq true rows) := by
  intro pins s σ S m x y vx vy u w Q sa rx ry I hu hw p
  unfold dOwnEq at p
  split at p
  · rename_i C ns ds ei
    split at p
    · rename_i G ts t eG eT
      split at p
      · rename_i ht
        obtain ⟨c, ⟨ok, nok⟩, rfl, rfl⟩ := eqRow_ok (P := fun r => EqOk X.prog X.w X.K X.mg X.base k r ∧ NeOk X.K r.1.a) (fun r h => ⟨hrows r h, hne r h⟩) eG
        obtain ⟨a, dx, vs, rfl, h1, h2, h3⟩ := insOf_ok sa rx ei
        obtain ⟨f, fd, ps, dds, G0, hf1, hf2, hk, hf, hb, rfl⟩ := ok.mt.ex
        obtain rfl : u = Value.ref a := hu
        obtain ⟨od1, J1⟩ := Inv.inst I h1
        obtain ⟨mm, F⟩ := I.fr
        refine ne_K (by have := hr.un; omega) F I.ok.mod.kin J1 (tag_looks I sa ry hw eT) (ok.nf t ht) nok.ne nok.ob hf1 hf2 (thn (run_fnA (us := [.ref a, w]) hf hr.in1 hb rfl I sa (.cons rx (.cons ry .nil)) (.cons rfl (.cons hw .nil)) (Q := fun v H => ∃ r, v = .bl r ∧ ∀ s, Inv X pins σ H s → EP X pins σ Q (.bool (!r)) s) (Post.bindI p fun r m2 v U st2 sa2 rv q2 => ?_)) fun v s1 h => ?_)
        · cases rv with
          | bl b =>
            (dsimp only at q2; rw [Bool.true_xor] at q2)
            exact ⟨b, rfl, fun s I => ⟨.bl (!b), U.H, I, rfl, Post.ok q2 (Stp.refl U) sa2 (.bl _)⟩⟩
          | _ => exact (show False from q2).elim
        · obtain ⟨y, H, I, r, b, rfl, q⟩ := h
          cases r
          exact ⟨b, rfl, q s1 I⟩
      · exact p.elim
    · exact p.elim
  · exact p.elim
/-! ### in, by an own __contains__ -/
def dOwnIn (neg : Bool) (rows : List (Kl × DFn)) : D2 := fun x y m => match insOf m y with
  | some (C, ns, _) => match methAt rows C ns with
    | some G => (G [y, x] m).bind fun r m1 => match r with
      | .bl b => .ok (.bl (neg ^^ b)) m1
      | _ => .stuck
    | _ => .stuck
  | none => .stuck
theorem od_ownIn {rows : List (Kl × DFn)} (hrows : ∀ r ∈ rows, MRow X.prog X.w X.K X.mg X.base k "__contains__" r.1 r.2) (hr : Room k X.A) : OD X (compareOp .In) (dOwnIn false rows) := by
  intro pins s σ S m x y vx vy u w Q sa rx ry I hu hw p
  unfold dOwnIn at p
  split at p
  · rename_i C ns ds ei
    split at p
    · rename_i G eG
      obtain ⟨c, ok, rfl, rfl⟩ := methAt_ok (P := MRow X.prog X.w X.K X.mg X.base k "__contains__") hrows eG
      obtain ⟨a, dx, vs, rfl, h1, h2, h3⟩ := insOf_ok sa ry ei
      obtain ⟨f, fd, ps, dds, G0, hf1, hf2, hk, hf, hb, rfl⟩ := ok.ex
      obtain rfl : w = Value.ref a := hw
      obtain ⟨od1, J1⟩ := Inv.inst I h1
      obtain ⟨mm, F⟩ := I.fr
      refine PySem.W.in_K F I.ok.mod.kin J1 hf1 hf2 (thn (run_fnA (us := [.ref a, u]) hf hr hb rfl I sa (.cons ry (.cons rx .nil)) (.cons rfl (.cons hu .nil)) (Q := fun v H => ∃ r, v = .bl r ∧ ∀ s, Inv X pins σ H s → EP X pins σ Q (.bool r) s) (Post.bindI p fun r m2 v U st2 sa2 rv q2 => ?_)) fun v s1 h => ?_)
      · cases rv with
        | bl b => (dsimp only at q2; rw [Bool.false_xor] at q2); exact ⟨b, rfl, fun s I => ⟨.bl b, U.H, I, rfl, Post.ok q2 (Stp.refl U) sa2 (.bl _)⟩⟩
        | _ => exact (show False from q2).elim
      · obtain ⟨y, H, I, r, b, rfl, q⟩ := h
        cases r
        exact wpAny_truthy_bool (q s1 I)
    · exact p.elim
  · exact p.elim
theorem od_ownNotIn {rows : List (Kl × DFn)} (hrows : ∀ r ∈ rows, MRow X.prog X.w X.K X.mg X.base k "__contains__" r.1 r.2) (hr : Room k X.A) : OD X (compareOp .NotIn) (dOwnIn true rows) := by
  intro pins s σ S m x y vx vy u w Q sa rx ry I hu hw p
  unfold dOwnIn at p
  split at p
  · rename_i C ns ds ei
    split at p
    · rename_i G eG
      obtain ⟨c, ok, rfl, rfl⟩ := methAt_ok (P := MRow X.prog X.w X.K X.mg X.base k "__contains__") hrows eG
      obtain ⟨a, dx, vs, rfl, h1, h2, h3⟩ := insOf_ok sa ry ei
      obtain ⟨f, fd, ps, dds, G0, hf1, hf2, hk, hf, hb, rfl⟩ := ok.ex
      obtain rfl : w = Value.ref a := hw
      obtain ⟨od1, J1⟩ := Inv.inst I h1
      obtain ⟨mm, F⟩ := I.fr
      refine PySem.W.notIn_K F I.ok.mod.kin J1 hf1 hf2 (thn (run_fnA (us := [.ref a, u]) hf hr hb rfl I sa (.cons ry (.cons rx .nil)) (.cons rfl (.cons hu .nil)) (Q := fun v H => ∃ r, v = .bl r ∧ ∀ s, Inv X pins σ H s → EP X pins σ Q (.bool (!r)) s) (Post.bindI p fun r m2 v U st2 sa2 rv q2 => ?_)) fun v s1 h => ?_)
      · cases rv with
        | bl b => (dsimp only at q2; rw [Bool.true_xor] at q2); exact ⟨b, rfl, fun s I => ⟨.bl (!b), U.H, I, rfl, Post.ok q2 (Stp.refl U) sa2 (.bl _)⟩⟩
        | _ => exact (show False from q2).elim
      · obtain ⟨y, H, I, r, b, rfl, q⟩ := h
        cases r
        exact wpAny_truthy_bool (q s1 I)
    · exact p.elim
  · exact p.elim
/-! ### len, repr, str, format of own objects -/
theorem strBack {pins : List (Addr × Obj)} {σ : L2.St} {Q : Value → Shared → Prop} {v : Value} {s : Shared} (h : EP X pins σ (fun v H => ∃ x, v = .str x ∧ ∀ t s, Inv X pins σ H s → Q (.str x t) s) v s) : PySem.W.StrBack Q v s := by
  obtain ⟨y, H, I, r, x, rfl, q⟩ := h
  obtain ⟨t, rfl⟩ := r
  exact q t s I
def dOwnStr (rows : List (Kl × DFn)) : DFn := fun ds m => match ds with
  | [x] => match insOf m x with
    | some (C, ns, _) => match methAt rows C ns with
      | some G => (G [x] m).bind fun r m1 => match r with
        | .str z => .ok (.str z) m1
        | _ => .stuck
      | none => .stuck
    | none => .stuck
  | _ => .stuck
theorem ownStr_run {mn : Str} {rows : List (Kl × DFn)} (hrows : ∀ r ∈ rows, MRow X.prog X.w X.K X.mg X.base k mn r.1 r.2) {pins : List (Addr × Obj)} {s : Shared} {σ : L2.St} {S : Wd} {m : Mu} {x : D} {vx : V} {u : Value} {Q : VK} (sa : Sta X.K S m) (rx : Rep X.K S.i S.F x vx) (I : Inv X pins σ S.H s) (hu : RelV vx u)
    (p : PostD X.K S (dOwnStr rows [x] m) Q (fun c d H => Fly X c d σ H)) :
    ∃ (a f C : Addr) (od : Obj) (dx : Addr), u = .ref a ∧ InstAt s.heap a (PySem.W.instObj C dx) C (some od) ∧ findIn X.K (.ref C) mn = some (some (.ref f)) ∧ isFn X.K (.ref f) = true ∧
      ∀ A s', A.frames = X.A.frames → Room k A → Inv X pins σ S.H s' → wpAny (model X.prog X.w) A (call (.ref f) [.ref a]) (PySem.W.StrBack fun v s => EP X pins σ Q v s) X.xe s' := by
  unfold dOwnStr at p
  dsimp only at p
  split at p
  · rename_i C ns ds ei
    split at p
    · rename_i G eG
      obtain ⟨c, ok, rfl, rfl⟩ := methAt_ok (P := MRow X.prog X.w X.K X.mg X.base k mn) hrows eG
      obtain ⟨a, dx, vs, rfl, h1, h2, h3⟩ := insOf_ok sa rx ei
      obtain ⟨f, fd, ps, dds, G0, hf1, hf2, hk, hf, hb, rfl⟩ := ok.ex
      obtain rfl : u = Value.ref a := hu
      obtain ⟨od1, J1⟩ := Inv.inst I h1
      refine ⟨a, f, _, od1, dx, rfl, J1, hf1, hf2, fun A s' hA hr I' => thn (run_fnA (us := [.ref a]) hf hr hb hA I' sa (.cons rx .nil) (.cons rfl .nil) (Post.bindI p fun r m2 v U st2 sa2 rv q2 => ?_)) fun v s1 h => strBack (pins := pins) (σ := σ) h⟩
      cases rv with
      | str z => exact ⟨z, rfl, fun t s I => ⟨.str z, U.H, I, ⟨t, rfl⟩, Post.ok q2 (Stp.refl U) sa2 (.str z)⟩⟩
      | _ => exact (show False from q2).elim
    · exact (show False from p).elim
  · exact (show False from p).elim
theorem oc_reprO {rows : List (Kl × DFn)} (hrows : ∀ r ∈ rows, MRow X.prog X.w X.K X.mg X.base k "__repr__" r.1 r.2) (hr : Room (k + 1) X.A) : OC X (.builtin "repr") (dOwnStr rows) := by
  intro pins s σ S m ds xs us Q sa r rv I p
  match ds, xs, us, r, rv with
  | [x], [vx], [u], .cons rx .nil, .cons hu .nil =>
    obtain ⟨a, f, C, od, dx, rfl, J, h1, h2, run⟩ := ownStr_run hrows sa rx I hu p
    obtain ⟨mm, F⟩ := I.fr
    exact PySem.W.repr_K (by have := hr.un; show X.A.units + 1 < _; omega) F I.ok.mod.kin J h1 h2 (run _ s rfl hr.in1 I)
  | [], _, _, _, _ => exact p.elim
  | _ :: _ :: _, _, _, _, _ => exact p.elim
theorem oc_strO {rows : List (Kl × DFn)} (hrows : ∀ r ∈ rows, MRow X.prog X.w X.K X.mg X.base k "__str__" r.1 r.2) (hr : Room (k + 2) X.A) : OC X (.type "str") (dOwnStr rows) := by
  intro pins s σ S m ds xs us Q sa r rv I p
  match ds, xs, us, r, rv with
  | [x], [vx], [u], .cons rx .nil, .cons hu .nil =>
    obtain ⟨a, f, C, od, dx, rfl, J, h1, h2, run⟩ := ownStr_run hrows sa rx I hu p
    exact PySem.W.kso_call (by have := hr.un; show X.A.units + 1 + 1 < _; omega) I.kIn J h1 h2 (run _ s rfl hr.in1.in1 I)
  | [], _, _, _, _ => exact p.elim
  | _ :: _ :: _, _, _, _, _ => exact p.elim
end
end DL

namespace DL
open PySem PySem.Spec PySem.Calls PyProof.Rows L2
variable [LamTab]
section
variable {X : Cx} {a b c e o : Expr} {es : List Expr} {ta tb tc : DE} {t : DA} {pos p apos : Pos} {k : Nat} {x mn : Str}
/-! ### f-strings -/
def dFmt (rows : List (Kl × DFn)) (t : DE) : DE := fun e m => (t e m).bind fun d m1 => match d with
  | .str y => if y.length ≤ sizeLine then .ok (.str y) m1 else .stuck
  | .int i => if i.natAbs.log2 < 1920 then .ok (.str (toString i)) m1 else .stuck
  | d => dOwnStr rows [d] m1
structure FmtOk (P : Program) (w : World) (K : PySem.W.Frag) (mg : Str → Option Value) (base : Heap) (k : Nat) (c : Kl) (G : DFn) : Prop where
  mt : MT P w K mg base k "__str__" c.a G
  fm : PySem.W.findIn K (.ref c.a) "__format__" = some (some (.builtin "object.__format__"))
  ob : PySem.W.mroIn K c.a (.type "object") = some true
theorem pd_fmt {rows : List (Kl × DFn)} (he : PDE X e ta) (hrows : ∀ r ∈ rows, FmtOk X.prog X.w X.K X.mg X.base k r.1 r.2) (hr : Room (k + 1) X.A) : PDE X (.FormattedValue e (-1) none pos) (dFmt rows ta) := by
  intro S r m σ Q sa re q pins s I
  refine wpAny_FormattedValue_plain (thn (he.run sa re q I) ?_)
  rintro u s1 ⟨x, d, m1, T, st, sa1, rd, rx, I1, q1⟩
  split at q1
  · rename_i y
    cases rd
    split at q1
    · rename_i hz
      obtain ⟨t, rfl⟩ := rx
      have q2 := Post.ok q1 (Stp.refl T) sa1 (.str y)
      exact wpAny_formatField_str ⟨.str y, _, I1, ⟨t, rfl⟩, q2⟩ ⟨.str y, _, I1.tok _, ⟨_, rfl⟩, q2⟩ hz
    · exact (show False from q1).elim
  · rename_i i
    cases rd
    split at q1
    · rename_i hz
      obtain ⟨t, rfl⟩ := rx
      have q2 := Post.ok q1 (Stp.refl T) sa1 (.str _)
      exact wpAny_formatField_int hz ⟨.str (toString i), _, I1.tok _, ⟨_, rfl⟩, q2⟩
    · exact (show False from q1).elim
  · unfold dOwnStr at q1
    dsimp only at q1
    split at q1
    · rename_i C ns ds ei
      split at q1
      · rename_i G eG
        obtain ⟨c, ok, rfl, rfl⟩ := methAt_ok (P := FmtOk X.prog X.w X.K X.mg X.base k) hrows eG
        obtain ⟨a, dx, vs, rfl, h1, h2, h3⟩ := insOf_ok sa1 rd ei
        obtain ⟨f, fd, ps, dds, G0, hf1, hf2, hk, hf, hb, rfl⟩ := ok.mt.ex
        obtain rfl : u = Value.ref a := rx
        obtain ⟨od1, J1⟩ := Inv.inst I1 h1
        refine PySem.W.kfo_fieldS (by have := hr.un; show X.A.units + 1 < _; omega) I1.kIn J1 ok.fm ok.ob hf1 hf2 (thn (run_fnA (us := [.ref a]) hf hr.in1 hb rfl (I1.tok _) sa1 (.cons rd .nil) (.cons rfl .nil) (Post.bindI q1 fun r m2 v U st2 sa2 rv q2 => ?_)) fun v s2 h => strBack (pins := pins) (σ := σ) h)
        cases rv with
        | str z => exact ⟨z, rfl, fun t s I => ⟨.str z, U.H, I, ⟨t, rfl⟩, Post.ok q2 (Stp.refl U) sa2 (.str z)⟩⟩
        | _ => exact (show False from q2).elim
      · exact (show False from q1).elim
    · exact (show False from q1).elim
def dJs : List DE → Str → DE
  | [], acc, _, m => .ok (.str acc) m
  | t :: ts, acc, e, m => (t e m).bind fun d m1 => match d with
    | .str y => if (acc ++ y).length ≤ sizeLine then dJs ts (acc ++ y) e m1 else .stuck
    | _ => .stuck
inductive PDJ (X : Cx) : List Expr → List DE → Prop where
  | nil : PDJ X [] []
  | cons {e : Expr} {t : DE} {es : List Expr} {ts : List DE} (h : PDE X e t) (r : PDJ X es ts) : PDJ X (e :: es) (t :: ts)
theorem pj_mx : ∀ {es : List Expr} {ts : List DE}, PDJ X es ts → PJ X es (es.map (WE X))
  | _, _, .nil => .nil
  | _, _, .cons h r => .cons (mxE X _) (pj_mx r)
theorem tjs_of : ∀ {es : List Expr} {ts : List DE}, PDJ X es ts → ∀ (acc : Str) {S : Wd} {r : En} {m : Mu} {σ : L2.St} {Q : Str → Hp → Prop}, Sta X.K S m → RelE X.K S r σ →
    PostD X.K S (dJs ts acc r m) (fun v H => ∃ y, v = .str y ∧ Q y H) (fun c d H => Fly X c d σ H) → tJs (es.map (WE X)) acc σ S.H Q
  | _, _, .nil, acc, S, r, m, σ, Q, sa, re, q => by
    obtain ⟨y, e, q⟩ := Post.ok q (Stp.refl S) sa (.str acc)
    cases e
    exact q
  | _, _, .cons h rr, acc, S, r, m, σ, Q, sa, re, q => by
    refine h S r m σ _ sa re (Post.bindI q fun d m1 v T st sa1 rd q1 => ?_)
    split at q1
    · rename_i y
      cases rd
      split at q1
      · rename_i hz
        exact ⟨y, rfl, hz, tjs_of rr (acc ++ y) sa1 (re.stp st) q1⟩
      · exact (show False from q1).elim
    · exact (show False from q1).elim
theorem dJs_str {ts : List DE} : ∀ {acc : Str} {e : En} {m : Mu} {K : PySem.W.Frag} {S : Wd} {Q : VK} {W : XK}, PostD K S (dJs ts acc e m) Q W → PostD K S (dJs ts acc e m) (fun v H => ∃ y, v = .str y ∧ Q (.str y) H) W := by
  induction ts with
  | nil => exact fun q v T st sa rd => by cases rd; exact ⟨_, rfl, q _ T st sa (.str _)⟩
  | cons t ts ih =>
    intro acc e m K S Q W q
    unfold dJs at q ⊢
    cases h : t e m with
    | stuck => rw [h] at q; exact q
    | exc C fs m1 => rw [h] at q; exact q
    | ok d m1 =>
      rw [h] at q
      rw [Res.bind_ok] at q ⊢
      cases d with
      | str y =>
        dsimp only at q ⊢
        by_cases hz : (acc ++ y).length ≤ sizeLine
        · rw [if_pos hz] at q ⊢
          exact ih q
        · rw [if_neg hz] at q ⊢
          exact q
      | _ => exact q
theorem pd_joined {v1 v2 : Expr} {rest : List Expr} {ts : List DE} (h : PDJ X (v1 :: v2 :: rest) ts) : PDE X (.JoinedStr (v1 :: v2 :: rest) pos) (dJs ts Str.empty) := by
  refine pd_of (pe_joined (pj_mx h)) fun S r m σ Q sa re q => ?_
  exact tjs_of h Str.empty sa re (dJs_str q)
theorem pd_joined1 (h : PDE X e ta) : PDE X (.JoinedStr [e] pos) ta := pd_of (pe_joined1 (mxE X e)) h
/-! ### static and class methods, called on the class -/
structure SMet (P : Program) (w : World) (K : PySem.W.Frag) (mg : Str → Option Value) (base : Heap) (k : Nat) (x mn : Str) (G : DFn) : Prop where
  ex : ∃ (C pp f : Addr) (fd : FuncData) (ps : List Str) (dds : List D) (G0 : DFn), mg x = some (.ref C) ∧ PySem.W.readsIn K C (.type "type") = true ∧ PySem.W.specialIn K (.ref C) "__getattribute__" = some (some (.builtin "type.__getattribute__")) ∧
    PySem.W.findCls K (.ref C) (.type "type") mn = some (.get (.builtin "staticmethod.__get__") (.ref pp) .none (.ref C)) ∧ (∃ rest, PySem.W.recIn K pp "staticmethod" = some (.ref f :: rest)) ∧
    PySem.W.keepIn K (.ref f) = true ∧ FnD P w K mg base k f fd ps G0 ∧ Bd K fd ps dds ∧ G = padF ps.length dds G0
theorem getsm {pins : List (Addr × Obj)} {σ : L2.St} {H : Hp} {s : Shared} {C pp f : Addr} {pl : Sem Bool} {Q : Value × List Value → Shared → Prop} {E : Value → Shared → Prop} (I : Inv X pins σ H s) (h1 : PySem.W.readsIn X.K C (.type "type") = true) (h2 : PySem.W.specialIn X.K (.ref C) "__getattribute__" = some (some (.builtin "type.__getattribute__")))
    (h3 : PySem.W.findCls X.K (.ref C) (.type "type") mn = some (.get (.builtin "staticmethod.__get__") (.ref pp) .none (.ref C))) (h4 : ∃ rest, PySem.W.recIn X.K pp "staticmethod" = some (.ref f :: rest))
    (h : ∀ s', Inv X pins σ H s' → Q (.ref f, []) s') : wpAny (model X.prog X.w) X.A (getMethod (.ref C) mn pl) Q E s := by
  obtain ⟨rest, hp⟩ := h4
  refine PySem.W.method_cls I.kIn h2 (PySem.W.cls_bind I.kIn h1 h3 ?_)
  exact wpAny_call (PySem.W.sm_get (s := { s with toks := s.toks + 1 }) I.kIn hp (PySem.W.handed_on rfl (h _ (I.tok _))))
theorem pd_smeth {p2 : Pos} {pl : Sem Bool} {G : DFn} (F : SMet X.prog X.w X.K X.mg X.base k x mn G) (hr : Room k X.A) (ha : PDA X (e :: es) t)
    (hg : Gl X x := by rfl) (hdb : (x == ("__debug__" : Str)) = false := by decide)
    (hst : starEach (e :: es) X.env = (false, eval e X.env) :: starEach es X.env := by exact se_cons _ _ _ rfl) (hpl : (backTo pos (starEach es X.env)).any (·.1) = false := by exact se_any _ _ _ rfl)
    (ht : eval (.Call (.Attribute (.Name x p2) mn apos) (e :: es) [] pos) X.env = (do
      let ov ← eval (.Name x p2) X.env
      standAt apos.atName
      let (f, first) ← holding [ov] (getMethod ov mn pl)
      callWith pos f first (backTo pos (starEach (e :: es) X.env)) (backToKw pos (keywordEach [] X.env))) := by rfl) :
    PDE X (.Call (.Attribute (.Name x p2) mn apos) (e :: es) [] pos) (dFun G t) := by
  obtain ⟨C, pp, f, fd, ps, dds, G0, hm, h1, h2, h3, h4, hk, hf, hb, rfl⟩ := F.ex
  intro S r m σ Q sa re q pins s I
  refine PySem.W.methodCall_KW (pl := pl) (ld_glob I hg hm ?_ hdb) ht
  refine getsm I h1 h2 h3 h4 fun s1 I1 => ?_
  refine PySem.W.callWith_K (first := []) (h₀ := X.base) I1.ok.mod.kin hk (thn (ha.run sa re q I1 pos) ?_) hst hpl
  rintro us s2 ⟨xs, das, m2, U, st2, sa2, rds, rv, I2, q2⟩
  exact ⟨I2.kIn, run_fnA (us := us) hf hr hb rfl I2 sa2 rds rv q2⟩
structure SMetK (P : Program) (w : World) (K : PySem.W.Frag) (mg : Str → Option Value) (base : Heap) (k : Nat) (x mn : Str) (n : Nat) (ks : List Str) (G : DFn) : Prop where
  ex : ∃ (C pp f : Addr) (fd : FuncData) (ps : List Str) (pl : List Nat) (dds : List D) (G0 : DFn), mg x = some (.ref C) ∧ PySem.W.readsIn K C (.type "type") = true ∧ PySem.W.specialIn K (.ref C) "__getattribute__" = some (some (.builtin "type.__getattribute__")) ∧
    PySem.W.findCls K (.ref C) (.type "type") mn = some (.get (.builtin "staticmethod.__get__") (.ref pp) .none (.ref C)) ∧ (∃ rest, PySem.W.recIn K pp "staticmethod" = some (.ref f :: rest)) ∧
    PySem.W.keepIn K (.ref f) = true ∧ FnD P w K mg base k f fd ps G0 ∧ BK K fd ps n ks pl dds ∧ G = fun ds m => match pick pl (ds ++ dds) with
      | some xs => G0 xs m
      | none => .stuck
theorem pd_smethK {n : Nat} {ks : List Str} {kws : List Keyword} {tk : DA} {p2 : Pos} {pl : Sem Bool} {G : DFn} (F : SMetK X.prog X.w X.K X.mg X.base k x mn n ks G) (hr : Room k X.A) (ha : PDA X (e :: es) t) (hkw : PDK X kws tk)
    (hks : (backToKw pos (keywordEach kws X.env)).filterMap (·.1) = ks := by rfl) (hall : (backToKw pos (keywordEach kws X.env)).all (·.1.isSome) = true := by rfl)
    (hg : Gl X x := by rfl) (hdb : (x == ("__debug__" : Str)) = false := by decide)
    (hst : starEach (e :: es) X.env = (false, eval e X.env) :: starEach es X.env := by exact se_cons _ _ _ rfl) (hpl : ((backTo pos (starEach (e :: es) X.env)).any (·.1) || (backToKw pos (keywordEach kws X.env)).any (·.1.isNone)) = false := by rfl)
    (ht : eval (.Call (.Attribute (.Name x p2) mn apos) (e :: es) kws pos) X.env = (do
      let ov ← eval (.Name x p2) X.env
      standAt apos.atName
      let (f, first) ← holding [ov] (getMethod ov mn pl)
      callWith pos f first (backTo pos (starEach (e :: es) X.env)) (backToKw pos (keywordEach kws X.env))) := by rfl) :
    PDE X (.Call (.Attribute (.Name x p2) mn apos) (e :: es) kws pos) (dFunK G n ks.length t tk) := by
  obtain ⟨C, pp, f, fd, ps, pl', dds, G0, hm, h1, h2, h3, h4, hk, hf, hb, rfl⟩ := F.ex
  intro S r m σ Q sa re q pins s I
  refine PySem.W.methodCall_KW (pl := pl) (ld_glob I hg hm ?_ hdb) ht
  refine getsm I h1 h2 h3 h4 fun s0 I0 => ?_
  refine PySem.W.callWith_KW (first := []) (h₀ := X.base) I0.ok.mod.kin hk hall (thn (ha.run sa re q I0 pos) ?_) hpl hst
  rintro us s1 ⟨xs, das, m1, T, st, sa1, rds, rv, I1, q1⟩
  refine thn (hkw.run sa1 (re.stp st) q1 I1 pos) ?_
  rintro ws s2 ⟨zs, dzs, m2, U, st2, sa2, rdz, rz, I2, q2⟩
  refine ⟨I2.kIn, ?_⟩
  rw [hks]
  split at q2
  · rename_i hl
    dsimp only at q2
    split at q2
    · rename_i xs' hp
      exact run_fnK hf hr hb I2 sa2 (rds.stp st2) rdz rv rz hl.1 hl.2 hp q2
    · exact q2.elim
  · exact q2.elim
/-! ### keywords in methods -/
structure MTK (P : Program) (w : World) (K : PySem.W.Frag) (mg : Str → Option Value) (base : Heap) (k : Nat) (mn : Str) (n : Nat) (ks : List Str) (c : Kl) (G : DFn) : Prop where
  cl : Cls K c.a
  no : mn ∉ c.ns
  ex : ∃ (f : Addr) (fd : FuncData) (ps : List Str) (pl : List Nat) (dds : List D) (G0 : DFn), PySem.W.findIn K (.ref c.a) mn = some (some (.ref f)) ∧ PySem.W.isFn K (.ref f) = true ∧ PySem.W.keepIn K (.ref f) = true ∧ FnD P w K mg base k f fd ps G0 ∧ BK K fd ps (n + 1) ks pl dds ∧
    G = fun ds m => match pick pl (ds ++ dds) with
      | some xs => G0 xs m
      | none => .stuck
def dMethK (rows : List (Kl × DFn)) (n nk : Nat) (to : DE) (t u : DA) : DE := fun e m => (to e m).bind fun o m1 => match insOf m1 o with
  | some (C, ns, _) => match methAt rows C ns with
    | some G => (t e m1).bind fun ds m2 => (u e m2).bind fun zs m3 => if ds.length = n ∧ zs.length = nk then G (o :: (ds ++ zs)) m3 else .stuck
    | none => .stuck
  | none => .stuck
theorem pd_methK {n : Nat} {ks : List Str} {kws : List Keyword} {to : DE} {tk : DA} {rows : List (Kl × DFn)} {pl : Sem Bool} (he : PDE X o to) (hrows : ∀ r ∈ rows, MTK X.prog X.w X.K X.mg X.base k mn n ks r.1 r.2) (hr : Room k X.A) (ha : PDA X (e :: es) t) (hkw : PDK X kws tk)
    (hks : (backToKw pos (keywordEach kws X.env)).filterMap (·.1) = ks := by rfl) (hall : (backToKw pos (keywordEach kws X.env)).all (·.1.isSome) = true := by rfl)
    (hst : starEach (e :: es) X.env = (false, eval e X.env) :: starEach es X.env := by exact se_cons _ _ _ rfl) (hpl : ((backTo pos (starEach (e :: es) X.env)).any (·.1) || (backToKw pos (keywordEach kws X.env)).any (·.1.isNone)) = false := by rfl)
    (ht : eval (.Call (.Attribute o mn apos) (e :: es) kws pos) X.env = (do
      let ov ← eval o X.env
      standAt apos.atName
      let (f, first) ← holding [ov] (getMethod ov mn pl)
      callWith pos f first (backTo pos (starEach (e :: es) X.env)) (backToKw pos (keywordEach kws X.env))) := by rfl) :
    PDE X (.Call (.Attribute o mn apos) (e :: es) kws pos) (dMethK rows n ks.length to t tk) := by
  intro S r m σ Q sa re q pins s I
  refine PySem.W.methodCall_KW (pl := pl) (thn (he.run sa re q I) ?_) ht
  rintro u s1 ⟨x, d, m1, T, st, sa1, rd, rx, I1, q1⟩
  split at q1
  · rename_i C ns ds ei
    split at q1
    · rename_i G eG
      obtain ⟨c, ok, rfl, rfl⟩ := methAt_ok (P := MTK X.prog X.w X.K X.mg X.base k mn n ks) hrows eG
      obtain ⟨a, dx, vs, rfl, h1, h2, h3⟩ := insOf_ok sa1 rd ei
      obtain ⟨f, fd, ps, plk, dds, G0, hf1, hf2, hk, hf, hb, rfl⟩ := ok.ex
      obtain rfl : u = Value.ref a := rx
      refine getmeth_ok I1 h1 ok.cl ⟨hf1, hf2, hk⟩ (lookup_not (by rw [h2]; exact ok.no)) ?_
      refine PySem.W.callWith_KW (first := [.ref a]) (h₀ := X.base) I.ok.mod.kin hk hall (thn (ha.run sa1 (re.stp st) q1 I1 pos) ?_) hpl hst
      rintro us s2 ⟨xs, das, m2, U, st2, sa2, rds, rv, I2, q2⟩
      refine thn (hkw.run sa2 ((re.stp st).stp st2) q2 I2 pos) ?_
      rintro ws s3 ⟨zs, dzs, m3, Z, st3, sa3, rdz, rz, I3, q3⟩
      refine ⟨I3.kIn, ?_⟩
      rw [hks]
      split at q3
      · rename_i hl
        dsimp only at q3
        split at q3
        · rename_i xs' hp
          exact run_fnK (us := .ref a :: us) hf hr hb I3 sa3 (.cons ((rd.stp st2).stp st3) (rds.stp st3)) rdz (.cons rfl rv) rz (by simp [hl.1]) hl.2 hp q3
        · exact q3.elim
      · exact q3.elim
    · exact (show False from q1).elim
  · exact (show False from q1).elim
theorem pd_methK0 {ks : List Str} {kws : List Keyword} {to : DE} {tk : DA} {rows : List (Kl × DFn)} {pl : Sem Bool} (he : PDE X o to) (hrows : ∀ r ∈ rows, MTK X.prog X.w X.K X.mg X.base k mn 0 ks r.1 r.2) (hr : Room k X.A) (hkw : PDK X kws tk)
    (hks : (backToKw pos (keywordEach kws X.env)).filterMap (·.1) = ks := by rfl) (hall : (backToKw pos (keywordEach kws X.env)).all (·.1.isSome) = true := by rfl)
    (hpl : ((backTo pos (starEach [] X.env)).any (·.1) || (backToKw pos (keywordEach kws X.env)).any (·.1.isNone)) = false := by rfl)
    (ht : eval (.Call (.Attribute o mn apos) [] kws pos) X.env = (do
      let ov ← eval o X.env
      standAt apos.atName
      let (f, first) ← holding [ov] (getMethod ov mn pl)
      callWith pos f first (backTo pos (starEach [] X.env)) (backToKw pos (keywordEach kws X.env))) := by rfl) :
    PDE X (.Call (.Attribute o mn apos) [] kws pos) (dMethK rows 0 ks.length to dNil tk) := by
  intro S r m σ Q sa re q pins s I
  refine PySem.W.methodCall_KW (pl := pl) (thn (he.run sa re q I) ?_) ht
  rintro u s1 ⟨x, d, m1, T, st, sa1, rd, rx, I1, q1⟩
  split at q1
  · rename_i C ns ds ei
    split at q1
    · rename_i G eG
      obtain ⟨c, ok, rfl, rfl⟩ := methAt_ok (P := MTK X.prog X.w X.K X.mg X.base k mn 0 ks) hrows eG
      obtain ⟨a, dx, vs, rfl, h1, h2, h3⟩ := insOf_ok sa1 rd ei
      obtain ⟨f, fd, ps, plk, dds, G0, hf1, hf2, hk, hf, hb, rfl⟩ := ok.ex
      obtain rfl : u = Value.ref a := rx
      refine getmeth_ok I1 h1 ok.cl ⟨hf1, hf2, hk⟩ (lookup_not (by rw [h2]; exact ok.no)) ?_
      refine PySem.W.callWith_KW0 (first := [.ref a]) (h₀ := X.base) I.ok.mod.kin hk hall (thn (hkw.run sa1 (re.stp st) (f := fun zs m3 => if ([] : List D).length = 0 ∧ zs.length = ks.length then _ else .stuck) q1 I1 pos) ?_) hpl
      rintro ws s3 ⟨zs, dzs, m3, Z, st3, sa3, rdz, rz, I3, q3⟩
      refine ⟨I3.kIn, ?_⟩
      rw [hks]
      split at q3
      · rename_i hl
        dsimp only at q3
        split at q3
        · rename_i xs' hp
          exact run_fnK (us := [.ref a]) (vs := [.ref a]) (das := [d]) hf hr hb I3 sa3 (.cons (rd.stp st3) .nil) rdz (.cons rfl .nil) rz rfl hl.2 hp q3
        · exact q3.elim
      · exact q3.elim
    · exact (show False from q1).elim
  · exact (show False from q1).elim
end
end DL

namespace DL
open PySem PySem.Spec PyProof.Rows L2
variable [LamTab]
/-! ### what a def leaves behind: its own store is dropped, a list of it that is handed out stays as it is -/
open Classical in
noncomputable def zapR (k : Nat) (r : Res D) : Res D := match r with
  | .ok d m2 => if Cl (m2.take k) ∧ (m2.take k).length = k then (match d with
      | .loc n => if n < k then .ok (.loc n) (m2.take k) else (match m2[n]? with
        | some (.lst ds) => if belows k ds = true then .ok (.lst ds) (m2.take k) else .stuck
        | _ => .stuck)
      | d => if below k d = true then .ok d (m2.take k) else .stuck) else .stuck
  | r => r
noncomputable def dZap (F : DFn) : DFn := fun ds m => zapR m.length (F ds m)
section
variable {K : PySem.W.Frag}
theorem zap_ok {S : Wd} {m : Mu} {r : Res D} {Q : VK} {W : XK} (sa : Sta K S m) (h : PostD K S (zapR m.length r) Q W) : PostD K S r Q W := by
  cases r with
  | stuck => exact h
  | exc C fs m2 => exact h
  | ok d m2 =>
    intro v T st saT rd
    unfold zapR at h
    dsimp only at h
    split at h
    · rename_i hc
      obtain ⟨hcl, hlen⟩ := hc
      obtain ⟨c1, c2⟩ := cut_ok sa st saT (by intro o ho; have := hcl o ho; rw [hlen] at this; exact this)
      have other : ∀ {d : D}, Rep K T.i T.F d v → below m.length d = true → PostD K S (.ok d (m2.take m.length)) Q W → Q v T.H := fun rd hb h =>
        h v (T.cut S.i) c1 c2 (rd.cut saT st.pre (by rw [sa.len]; exact hb))
      split at h
      · rename_i n
        split at h
        · rename_i hn
          exact other rd (by unfold below; exact decide_eq_true hn) h
        · rename_i hn
          split at h
          · rename_i ds e1
            split at h
            · rename_i hb
              cases rd with
              | @loc _ a ha =>
                obtain ⟨xs, q1, q2⟩ := saT.ok n a _ ha e1
                refine h (.ref a) (T.cut S.i) c1 c2 (.lst (.inl (.inl ?_)) (q2.cut saT st.pre (by rw [sa.len]; exact hb)))
                rw [cut_at sa st saT (by omega) ha]
                exact q1
            · exact h.elim
          · exact h.elim
      · split at h
        · rename_i hb
          exact other rd hb h
        · exact h.elim
    · exact h.elim
end
section
variable {P : Program} {w : World} {K : PySem.W.Frag} {mg : Str → Option Value} {base : Heap}
theorem FnD.zap {k : Nat} {f : Addr} {fd : FuncData} {ps : List Str} {F : DFn} (h : FnD P w K mg base k f fd ps F) : FnD P w K mg base k f fd ps (dZap F) :=
  FnOk.imp h fun vs H Q E ⟨h1, S, m, ds, h2, h3, h4, h5⟩ => ⟨h1, S, m, ds, h2, h3, h4, zap_ok h3 h5⟩
end
/-! ### over a list of the store -/
open Classical in
noncomputable def dLoopS (g : DG) (b : DS) (n : Nat) (ds0 : List D) : List D → En → Mu → RS
  | [], e, m => if m[n]? = some (.lst ds0) then .nx e m else .stuck
  | d :: ds, e, m => if m[n]? = some (.lst ds0) then (match g d e with
    | none => .stuck
    | some e1 => match b e1 m with
      | .nx e2 m2 => dLoopS g b n ds0 ds e2 m2
      | .ct e2 m2 => dLoopS g b n ds0 ds e2 m2
      | .bk e2 m2 => .nx e2 m2
      | .rt d m2 => .rt d m2
      | .exc C fs e2 m2 => .exc C fs e2 m2
      | .stuck => .stuck) else .stuck
noncomputable def forS1 (g : DG) (b : DS) (d : D) (e : En) (m1 : Mu) : RS := match d with
  | .lst ds => dLoop g b ds e m1
  | .loc n => match m1[n]? with
    | some (.lst ds) => dLoopS g b n ds ds e m1
    | _ => .stuck
  | _ => .stuck
noncomputable def dForS (t : DE) (g : DG) (b : DS) : DS := fun e m => rsOf e (t e m) fun d m1 => forS1 g b d e m1
section
variable {X : Cx} {tg a b : Expr} {es : List Expr} {ta tb : DE} {t : DA} {pos p tpos : Pos}
theorem pds_forS {iter : Expr} {body : List Stmt} {g : DG} {u : DS} {sl : List Nat} (hi : PDE X iter ta) (hg : PDG X tg g sl) (hb : PDSs X body u) (hc : X.calm = true) (hp : PassesOwn (model X.prog X.w) X.A X.env X.xe)
    (hs : ∀ x, foldedSetIterable iter X.env x = pure x := by intro _; rfl) : PDS X (.For tg iter body [] pos) (dForS ta g u) := by
  refine ps_of (ps_for hp hc (pi_list (mxE X iter)) (mxG X tg) (mxSs X body) hs) fun S r m σ N sa re p => ?_
  refine hi S r m σ _ sa re (?_)
  unfold dForS at p
  cases q : ta r m with
  | stuck => rw [q] at p; exact p
  | exc C fs m1 => rw [q] at p; exact fun dd vs T st hn sa1 h1 h2 => p dd vs σ T st hn sa1 (re.stp st) h1 h2
  | ok d m1 =>
    rw [q] at p
    intro v T st sa1 rd
    have p2 : PostS X.K T (forS1 g u d r m1) N (Fly X) := PostS.step st p
    clear p q
    have p := p2
    clear p2
    unfold forS1 at p
    split at p
    · rename_i ds
      obtain ⟨a, xs, rfl, hr, kk⟩ := frozen sa1 rd
      refine ⟨a, rfl, ⟨xs, (kk T m1 (Stp.refl T) sa1).1⟩, ?_⟩
      have hJ : ItOk X.K T (Itl X.K a) ds := fun U m' i st' sa' => ⟨fun d hd => by
          obtain ⟨v, hv, rv⟩ := (kk U m' st' sa').2.get hd
          refine ⟨⟨xs, v, (kk U m' st' sa').1, hv⟩, fun x H' hy => ⟨U, hy.1.symm, Stp.refl U, sa', ?_⟩⟩
          have := hy.2 xs (kk U m' st' sa').1
          rw [hv] at this; cases this
          exact rv, fun hl => ⟨xs, (kk U m' st' sa').1, by rw [← hr.len]; exact hl⟩⟩
      refine ⟨fun i n σ' H' => n = ds.length - i ∧ i ≤ ds.length ∧ ∃ (U : Wd) (e : En) (m' : Mu), U.H = H' ∧ Stp T U ∧ Sta X.K U m' ∧ RelE X.K U e σ' ∧ PostS X.K U (dLoop g u (ds.drop i) e m') N (Fly X),
        ⟨ds.length, by simp, Nat.zero_le _, T, r, m1, rfl, Stp.refl T, sa1, re.stp st, p⟩, ?_⟩
      rintro i n σ' H' ⟨rfl, hi', U, e, m', rfl, stU, saU, reU, pU⟩
      by_cases hlt : i < ds.length
      · refine .inr ⟨((hJ U m' i stU saU).1 _ (List.getElem?_eq_getElem hlt)).1, fun σ2 H2 => i + 1 ≤ ds.length ∧ ∃ (U2 : Wd) (e2 : En) (m2 : Mu), U2.H = H2 ∧ Stp T U2 ∧ Sta X.K U2 m2 ∧ RelE X.K U2 e2 σ2 ∧ PostS X.K U2 (dLoop g u (ds.drop (i + 1)) e2 m2) N (Fly X),
          fun σ2 H2 h2 => ⟨ds.length - (i + 1), by omega, rfl, h2.1, h2.2⟩, fun x H2 hy => ?_⟩
        obtain ⟨Y, rfl, stY, saY, rdY⟩ := ((hJ U m' i stU saU).1 _ (List.getElem?_eq_getElem hlt)).2 x H2 hy
        rw [List.drop_eq_getElem_cons hlt] at pU
        have pY := PostS.step stY pU
        unfold dLoop at pY
        cases qg : g ds[i] e with
        | none => rw [qg] at pY; exact pY.elim
        | some e1 =>
          rw [qg] at pY
          refine hg Y e m' σ' ds[i] x e1 _ saY (reU.stp stY) rdY qg fun σ1 re1 _ => hb Y e1 m' σ1 _ saY re1 ?_
          have stT := stU.trans stY
          dsimp only at pY
          cases qb : u e1 m' with
          | stuck => rw [qb] at pY; exact pY.elim
          | nx e2 m2 => rw [qb] at pY; exact fun σ2 Z stZ saZ reZ => ⟨hlt, Z, e2, m2, rfl, stT.trans stZ, saZ, reZ, PostS.step stZ pY⟩
          | ct e2 m2 => rw [qb] at pY; exact fun σ2 Z stZ saZ reZ => ⟨hlt, Z, e2, m2, rfl, stT.trans stZ, saZ, reZ, PostS.step stZ pY⟩
          | bk e2 m2 => rw [qb] at pY; exact pY
          | rt d m2 => rw [qb] at pY; exact pY
          | exc C fs e2 m2 => rw [qb] at pY; exact pY
      · have e : i = ds.length := by omega
        subst e
        rw [List.drop_length] at pU
        exact .inl ⟨(hJ U m' _ stU saU).2 (Nat.le_refl _), pU σ' U (Stp.refl U) saU reU⟩
    · rename_i n
      split at p
      · rename_i ds e0
        cases rd with
        | @loc _ a ha =>
        have look : ∀ U m', Stp T U → Sta X.K U m' → m'[n]? = some (.lst ds) → ∃ xs, SqL X.K U.H a xs ∧ Reps X.K U.i U.F ds xs := fun U m' st' sa' e' => by
          obtain ⟨xs, q1, q2⟩ := sa'.ok n a _ (pre_get st'.pre ha) e'
          exact ⟨xs, .inl (.inl q1), q2⟩
        have inj : ∀ U m', Sta X.K U m' → Stp T U → m'[n]? = some (.lst ds) → ∀ xs ys, SqL X.K U.H a xs → U.H a = some (.lst ys) → True := fun _ _ _ _ _ _ _ _ _ => True.intro
        obtain ⟨xs0, k1, k2⟩ := look T m1 (Stp.refl T) sa1 e0
        refine ⟨a, rfl, ⟨xs0, k1⟩, ?_⟩
        refine ⟨fun i nn σ' H' => nn = ds.length - i ∧ i ≤ ds.length ∧ ∃ (U : Wd) (e : En) (m' : Mu), U.H = H' ∧ Stp T U ∧ Sta X.K U m' ∧ RelE X.K U e σ' ∧ PostS X.K U (dLoopS g u n ds (ds.drop i) e m') N (Fly X),
          ⟨ds.length, by simp, Nat.zero_le _, T, r, m1, rfl, Stp.refl T, sa1, re.stp st, p⟩, ?_⟩
        rintro i nn σ' H' ⟨rfl, hi', U, e, m', rfl, stU, saU, reU, pU⟩
        by_cases hlt : i < ds.length
        · rw [List.drop_eq_getElem_cons hlt] at pU
          unfold dLoopS at pU
          split at pU
          · rename_i hgd
            obtain ⟨xs, l1, l2⟩ := look U m' stU saU hgd
            obtain ⟨v, hv, rv⟩ := l2.get (List.getElem?_eq_getElem hlt)
            refine .inr ⟨⟨xs, v, l1, hv⟩, fun σ2 H2 => i + 1 ≤ ds.length ∧ ∃ (U2 : Wd) (e2 : En) (m2 : Mu), U2.H = H2 ∧ Stp T U2 ∧ Sta X.K U2 m2 ∧ RelE X.K U2 e2 σ2 ∧ PostS X.K U2 (dLoopS g u n ds (ds.drop (i + 1)) e2 m2) N (Fly X),
              fun σ2 H2 h2 => ⟨ds.length - (i + 1), by omega, rfl, h2.1, h2.2⟩, fun x H2 hy => ?_⟩
            obtain ⟨rfl, hy2⟩ := hy
            have hx := hy2 xs l1
            rw [hv] at hx
            cases hx
            cases qg : g ds[i] e with
            | none => rw [qg] at pU; exact pU.elim
            | some e1 =>
              rw [qg] at pU
              refine hg U e m' σ' ds[i] v e1 _ saU reU rv qg fun σ1 re1 _ => hb U e1 m' σ1 _ saU re1 ?_
              dsimp only at pU
              cases qb : u e1 m' with
              | stuck => rw [qb] at pU; exact pU.elim
              | nx e2 m2 => rw [qb] at pU; exact fun σ2 Z stZ saZ reZ => ⟨hlt, Z, e2, m2, rfl, stU.trans stZ, saZ, reZ, PostS.step stZ pU⟩
              | ct e2 m2 => rw [qb] at pU; exact fun σ2 Z stZ saZ reZ => ⟨hlt, Z, e2, m2, rfl, stU.trans stZ, saZ, reZ, PostS.step stZ pU⟩
              | bk e2 m2 => rw [qb] at pU; exact pU
              | rt d m2 => rw [qb] at pU; exact pU
              | exc C fs e2 m2 => rw [qb] at pU; exact pU
          · exact pU.elim
        · have e : i = ds.length := by omega
          subst e
          rw [List.drop_length] at pU
          unfold dLoopS at pU
          split at pU
          · rename_i hgd
            obtain ⟨xs, l1, l2⟩ := look U m' stU saU hgd
            exact .inl ⟨⟨xs, l1, by rw [← l2.len]; exact Nat.le_refl _⟩, pU σ' U (Stp.refl U) saU reU⟩
          · exact pU.elim
      · exact p.elim
    · exact p.elim
/-! ### methods of lists of the store -/
/-- o.m(..) of a list of the store -/
def dLm (f : List D → List D → Option (List D × D)) (to : DE) (t : DA) : DE := fun e m => (to e m).bind fun o m1 => match o with
  | .loc n => match m1[n]? with
    | some (.lst _) => (t e m1).bind fun ds m2 => match m2[n]? with
      | some (.lst xs) => match f xs ds with
        | some (ys, d) => .ok d (m2.set n (.lst ys))
        | none => .stuck
      | _ => .stuck
    | _ => .stuck
  | _ => .stuck
def fAppend : List D → List D → Option (List D × D) := fun xs ds => match ds with
  | [d] => if xs.length < sizeLine then some (xs ++ [d], .non) else none
  | _ => none
def fClear : List D → List D → Option (List D × D) := fun _ ds => match ds with
  | [] => some ([], .non)
  | _ => none
def fPop : List D → List D → Option (List D × D) := fun xs ds => match ds with
  | [] => match xs[xs.length - 1]? with
    | some d => some (xs.dropLast, d)
    | none => none
  | _ => none
def fPopAt : List D → List D → Option (List D × D) := fun xs ds => match ds with
  | [.int i] => if -(2 ^ 63) ≤ i ∧ i < 2 ^ 63 then (match ixN xs.length i with
    | some k => match xs[k]? with
      | some d => some (xs.eraseIdx k, d)
      | none => none
    | none => none) else none
  | _ => none
def fInsert : List D → List D → Option (List D × D) := fun xs ds => match ds with
  | [.int i, d] => if 0 ≤ i ∧ i < 2 ^ 63 ∧ xs.length < sizeLine then some (xs.take i.toNat ++ [d] ++ xs.drop i.toNat, .non) else none
  | _ => none
theorem Reps.dropLast {K : PySem.W.Frag} {ι : List Addr} {F : Hp} {ds : List D} {vs : List V} (r : Reps K ι F ds vs) : Reps K ι F ds.dropLast vs.dropLast := by
  rw [List.dropLast_eq_take, List.dropLast_eq_take, ← r.len]
  exact r.take _
section
variable {f : List D → List D → Option (List D × D)} {rr : V → List V → Hp → VK → Prop}
/-- what a method's rule must give -/
def LmOk (K : PySem.W.Frag) (f : List D → List D → Option (List D × D)) (rr : V → List V → Hp → VK → Prop) : Prop := ∀ (i : List Addr) (F H : Hp) (a : Addr) (xs ds ys : List D) (d : D) (vs us : List V) (Q : VK), H a = some (.lst vs) → Reps K i F xs vs → Reps K i F ds us → f xs ds = some (ys, d) →
  (∀ ws v, Reps K i F ys ws → Rep K i F d v → Q v (upd H a (.lst ws))) → rr (.ref a) us H Q
theorem ok_append (K : PySem.W.Frag) : LmOk K fAppend rAppend := by
  intro i F H a xs ds ys d vs us Q h1 r1 r2 hf q
  unfold fAppend at hf
  split at hf
  · rename_i d1
    split at hf
    · rename_i hl
      cases hf
      cases r2 with
      | cons h r =>
        cases r
        exact ⟨a, vs, _, rfl, rfl, h1, by rw [← r1.len]; exact hl, q _ _ (r1.append (.cons h .nil)) .non⟩
    · cases hf
  · cases hf
theorem ok_clear (K : PySem.W.Frag) : LmOk K fClear rClear := by
  intro i F H a xs ds ys d vs us Q h1 r1 r2 hf q
  unfold fClear at hf
  split at hf
  · cases hf
    cases r2
    exact ⟨a, vs, rfl, rfl, h1, q _ _ .nil .non⟩
  · cases hf
theorem ok_pop (K : PySem.W.Frag) : LmOk K fPop rPop := by
  intro i F H a xs ds ys d vs us Q h1 r1 r2 hf q
  unfold fPop at hf
  split at hf
  · split at hf
    · rename_i d1 e1
      cases hf
      cases r2
      obtain ⟨v, hv, rv⟩ := r1.get e1
      exact ⟨a, vs, v, rfl, rfl, h1, by rw [← r1.len]; exact hv, q _ _ r1.dropLast rv⟩
    · cases hf
  · cases hf
theorem ok_popAt (K : PySem.W.Frag) : LmOk K fPopAt rPopAt := by
  intro i F H a xs ds ys d vs us Q h1 r1 r2 hf q
  unfold fPopAt at hf
  split at hf
  · rename_i j
    split at hf
    · rename_i hj
      split at hf
      · rename_i k ek
        split at hf
        · rename_i d1 e1
          cases hf
          cases r2 with
          | cons h r =>
            cases r
            cases h
            obtain ⟨v, hv, rv⟩ := r1.get e1
            exact ⟨a, vs, j, k, v, rfl, rfl, h1, hj.1, hj.2, by rw [← r1.len]; exact (ixN_seq ek).1, hv, q _ _ (r1.eraseIdx k) rv⟩
        · cases hf
      · cases hf
    · cases hf
  · cases hf
theorem ok_insert (K : PySem.W.Frag) : LmOk K fInsert (fun x vs H Q => ∃ (l : Addr) (xs : List V) (i : Int) (y : V), x = .ref l ∧ vs = [.int i, y] ∧ H l = some (.lst xs) ∧ xs.length < sizeLine ∧ 0 ≤ i ∧ i < 2 ^ 63 ∧ Q .non (upd H l (.lst (xs.take i.toNat ++ [y] ++ xs.drop i.toNat)))) := by
  intro i F H a xs ds ys d vs us Q h1 r1 r2 hf q
  unfold fInsert at hf
  split at hf
  · rename_i j d1
    split at hf
    · rename_i hj
      cases hf
      cases r2 with
      | cons h r =>
        cases h
        cases r with
        | cons h r =>
          cases r
          exact ⟨a, vs, j, _, rfl, rfl, h1, by rw [← r1.len]; exact hj.2.2, hj.1, hj.2.1, q _ _ (((r1.take _).append (.cons h .nil)).append (r1.drop _)) .non⟩
    · cases hf
  · cases hf
variable {o e : Expr} {to : DE} {name : Str} {apos cpos : Pos} {id : String}
theorem lm_fin (hm : LmOk X.K f rr) {T U : Wd} {σ : L2.St} {m2 : Mu} {n : Nat} {a : Addr} {ds xs : List D} {us : List V} {Q : VK} (ha : U.i[n]? = some a) (sa2 : Sta X.K U m2) (rds : Reps X.K U.i U.F ds us)
    (q2 : PostD X.K U (match m2[n]? with
      | some (.lst xs) => match f xs ds with
        | some (ys, d) => .ok d (m2.set n (.lst ys))
        | none => .stuck
      | _ => .stuck) Q (fun c d H => Fly X c d σ H)) : rr (.ref a) us U.H Q := by
  split at q2
  · rename_i xs e1
    split at q2
    · rename_i ys d e2
      obtain ⟨vs, h1, h2⟩ := sa2.ok n a _ ha e1
      refine hm U.i U.F U.H a xs ds ys d vs us Q h1 h2 rds e2 fun ws v rw rd => ?_
      obtain ⟨st, sa⟩ := sa2.put ha (o := .lst ws) (q := .lst ys) ⟨ws, upd_same, rw⟩
      exact q2 v (U.put a (.lst ws)) st sa rd
    · exact q2.elim
  · exact q2.elim
theorem pd_lm (slot : Slot "list" name id) (hty : typeOf (.builtin id) = pure (.type "method_descriptor")) (hr : MtR X id rr) (hm : LmOk X.K f rr) (ho : PDE X o to) (ha : PDA X (e :: es) t)
    (hbase : attributeBase o name X.env (eval o X.env) = eval o X.env := by rfl)
    (hfew : ((backTo cpos (starEach (e :: es) X.env)).all (fun x => !x.1) && (backToKw cpos (keywordEach [] X.env)).all (fun x => x.1.isSome)
      && decide ((e :: es).length + ([] : List Keyword).length + (if ([] : List Keyword).isEmpty then 0 else 1) < 30)) = true := by rfl)
    (hline : (apos.endLine == cpos.line) = true := by rfl) (hs : starEach (e :: es) X.env = (false, eval e X.env) :: starEach es X.env := by exact se_cons _ _ _ rfl) (hplain : (backTo cpos (starEach es X.env)).any (·.1) = false := by rfl) :
    PDE X (.Call (.Attribute o name apos) (e :: es) [] cpos) (dLm f to t) := by
  refine pd_of (pe_bm PySem.F.plainAttrs_list slot hty hr (mxE X o) (mxA X _) hbase hfew hline hs hplain) fun S r m σ Q sa re p => ?_
  refine ho S r m σ _ sa re (Post.bindI p fun od m1 v T st sa1 rd q => ?_)
  split at q
  · rename_i n
    split at q
    · rename_i xs0 e0
      cases rd with
      | @loc _ a ha' =>
      obtain ⟨vs0, h1, h2⟩ := sa1.ok n a _ ha' e0
      refine ⟨.inl ⟨rfl, vs0, .inl (.inl h1)⟩, ?_⟩
      refine ha T r m1 σ _ sa1 (re.stp st) (Post.bindI q fun ds m2 us U st2 sa2 rds q2 => ?_)
      exact lm_fin (T := T) (xs := xs0) hm (pre_get st2.pre ha') sa2 rds q2
    · exact q.elim
  · exact q.elim
theorem pd_lm0 (slot : Slot "list" name id) (hty : typeOf (.builtin id) = pure (.type "method_descriptor")) (hr : MtR X id rr) (hm : LmOk X.K f rr) (ho : PDE X o to)
    (hbase : attributeBase o name X.env (eval o X.env) = eval o X.env := by rfl) (hline : (apos.endLine == cpos.line) = true := by rfl) :
    PDE X (.Call (.Attribute o name apos) [] [] cpos) (dLm f to dNil) := by
  refine pd_of (pe_bm0 PySem.F.plainAttrs_list slot hty hr (mxE X o) hbase hline) fun S r m σ Q sa re p => ?_
  refine ho S r m σ _ sa re (Post.bindI p fun od m1 v T st sa1 rd q => ?_)
  split at q
  · rename_i n
    split at q
    · rename_i xs0 e0
      cases rd with
      | @loc _ a ha' =>
      obtain ⟨vs0, h1, h2⟩ := sa1.ok n a _ ha' e0
      exact ⟨.inl ⟨rfl, vs0, .inl (.inl h1)⟩, lm_fin (T := T) (xs := xs0) (ds := []) hm ha' sa1 .nil q⟩
    · exact q.elim
  · exact q.elim
theorem pd_append (ho : PDE X o to) (ha : PDA X [e] t) (hbase : attributeBase o "append" X.env (eval o X.env) = eval o X.env := by rfl)
    (hfew : ((backTo cpos (starEach [e] X.env)).all (fun x => !x.1) && (backToKw cpos (keywordEach [] X.env)).all (fun x => x.1.isSome)
      && decide ([e].length + ([] : List Keyword).length + (if ([] : List Keyword).isEmpty then 0 else 1) < 30)) = true := by rfl)
    (hline : (apos.endLine == cpos.line) = true := by rfl) (hs : starEach [e] X.env = (false, eval e X.env) :: starEach [] X.env := by rfl) (hplain : (backTo cpos (starEach [] X.env)).any (·.1) = false := by rfl) :
    PDE X (.Call (.Attribute o "append" apos) [e] [] cpos) (dLm fAppend to t) := pd_lm PySem.F.slot_list_append PySem.F.type_list_append mt_append (ok_append _) ho ha hbase hfew hline hs hplain
theorem pd_popAt (ho : PDE X o to) (ha : PDA X [e] t) (hbase : attributeBase o "pop" X.env (eval o X.env) = eval o X.env := by rfl)
    (hfew : ((backTo cpos (starEach [e] X.env)).all (fun x => !x.1) && (backToKw cpos (keywordEach [] X.env)).all (fun x => x.1.isSome)
      && decide ([e].length + ([] : List Keyword).length + (if ([] : List Keyword).isEmpty then 0 else 1) < 30)) = true := by rfl)
    (hline : (apos.endLine == cpos.line) = true := by rfl) (hs : starEach [e] X.env = (false, eval e X.env) :: starEach [] X.env := by rfl) (hplain : (backTo cpos (starEach [] X.env)).any (·.1) = false := by rfl) :
    PDE X (.Call (.Attribute o "pop" apos) [e] [] cpos) (dLm fPopAt to t) := pd_lm PySem.F.slot_list_pop PySem.F.type_list_pop mt_popAt (ok_popAt _) ho ha hbase hfew hline hs hplain
theorem pd_insert {e2 : Expr} (ho : PDE X o to) (ha : PDA X [e, e2] t) (hbase : attributeBase o "insert" X.env (eval o X.env) = eval o X.env := by rfl)
    (hfew : ((backTo cpos (starEach [e, e2] X.env)).all (fun x => !x.1) && (backToKw cpos (keywordEach [] X.env)).all (fun x => x.1.isSome)
      && decide ([e, e2].length + ([] : List Keyword).length + (if ([] : List Keyword).isEmpty then 0 else 1) < 30)) = true := by rfl)
    (hline : (apos.endLine == cpos.line) = true := by rfl) (hs : starEach [e, e2] X.env = (false, eval e X.env) :: starEach [e2] X.env := by rfl) (hplain : (backTo cpos (starEach [e2] X.env)).any (·.1) = false := by rfl) :
    PDE X (.Call (.Attribute o "insert" apos) [e, e2] [] cpos) (dLm fInsert to t) := pd_lm PySem.F.slot_list_insert PySem.F.type_list_insert L2.mt_insert (ok_insert _) ho ha hbase hfew hline hs hplain
theorem pd_pop (ho : PDE X o to) (hbase : attributeBase o "pop" X.env (eval o X.env) = eval o X.env := by rfl) (hline : (apos.endLine == cpos.line) = true := by rfl) :
    PDE X (.Call (.Attribute o "pop" apos) [] [] cpos) (dLm fPop to dNil) := pd_lm0 PySem.F.slot_list_pop PySem.F.type_list_pop mt_pop (ok_pop _) ho hbase hline
theorem pd_clear (ho : PDE X o to) (hbase : attributeBase o "clear" X.env (eval o X.env) = eval o X.env := by rfl) (hline : (apos.endLine == cpos.line) = true := by rfl) :
    PDE X (.Call (.Attribute o "clear" apos) [] [] cpos) (dLm fClear to dNil) := pd_lm0 PySem.F.slot_list_clear PySem.F.type_list_clear mt_clear (ok_clear _) ho hbase hline
end
end
end DL

namespace DL
open PySem PySem.Spec PyProof.Rows L2
variable [LamTab]
/-! ### comprehensions: over lists of the store, into the store -/
/-- a hidden list becomes one of the store -/
def Wd.adopt (S : Wd) (p : Addr) : Wd := ⟨S.i ++ [p], S.F, S.H⟩
section
variable {K : PySem.W.Frag} {S T : Wd} {m : Mu}
theorem Rep.adopt {p : Addr} {d : D} {v : V} (r : Rep K S.i S.F d v) : Rep K (S.adopt p).i (S.adopt p).F d v := r.mono (List.prefix_append _ _) (Ext.refl _)
theorem Reps.adopt {p : Addr} {d : List D} {v : List V} (r : Reps K S.i S.F d v) : Reps K (S.adopt p).i (S.adopt p).F d v := r.mono (List.prefix_append _ _) (Ext.refl _)
theorem Sta.adopt (sa : Sta K S m) {p : Addr} {ds : List D} {av : List V} (h0 : S.H p = some (.lst av)) (h1 : S.F p = none) (h2 : p ∉ S.i) (r : Reps K S.i S.F ds av) : Sta K (S.adopt p) (m ++ [.lst ds]) := by
  refine ⟨?_, by show (S.i ++ [p]).length = _; simp [sa.len], sa.sub, fun a ha => ?_, fun a ha => ?_, fun n a u e1 e2 => ?_, fun q hq => ?tb⟩
  case tb =>
    obtain ⟨ps, t1, t2, t3, t4, t5⟩ := sa.tb q hq
    exact ⟨ps, t1, t2, fun z => (List.mem_append.mp (show q.1 ∈ S.i ++ [p] from z)).elim t3 (fun z => by rw [List.mem_singleton.mp z, h0] at t1; cases t1), t4, t5⟩
  · show (S.i ++ [p]).Nodup
    refine List.nodup_append.mpr ⟨sa.nd, by simp, fun a ha b hb => ?_⟩
    have : b = p := List.mem_singleton.mp hb
    subst this
    exact fun z => h2 (z ▸ ha)
  · rcases List.mem_append.mp (show a ∈ S.i ++ [p] from ha) with z | z
    · exact sa.dis a z
    · have : a = p := List.mem_singleton.mp z
      subst this; exact h1
  · rcases List.mem_append.mp (show a ∈ S.i ++ [p] from ha) with z | z
    · exact sa.tr a z
    · have : a = p := List.mem_singleton.mp z
      subst this; exact ⟨_, h0⟩
  · have e1 : (S.i ++ [p])[n]? = some a := e1
    by_cases hn : n < S.i.length
    · rw [List.getElem?_append_left hn] at e1
      rw [List.getElem?_append_left (by rw [← sa.len]; exact hn)] at e2
      have q := sa.ok n a u e1 e2
      cases u with
      | lst ds => obtain ⟨xs, q1, q2⟩ := q; exact ⟨xs, q1, q2.adopt⟩
      | ins C fs => obtain ⟨dx, vs, q1, q2⟩ := q; exact ⟨dx, vs, q1, q2.mono (List.prefix_append _ _) (Ext.refl _)⟩
      | exo C d =>
        cases d with
        | none => exact q
        | some k => obtain ⟨dx, q1, q2⟩ := q; exact ⟨dx, pre_get (List.prefix_append _ _) q1, q2⟩
      | exd fs => obtain ⟨vs, q1, q2⟩ := q; exact ⟨vs, q1, q2.mono (List.prefix_append _ _) (Ext.refl _)⟩
      | dik kvs => obtain ⟨vs, q1, q0, q2⟩ := q; exact ⟨vs, q1, q0, q2.adopt⟩
      | dit kvs => obtain ⟨vs, q1, q0, q2⟩ := q; exact ⟨vs, q1, q0, q2.adopt⟩
    · have hn' : n = S.i.length := by
        have := (List.getElem?_eq_some_iff.mp e1).1
        simp at this; omega
      subst hn'
      rw [List.getElem?_append_right (Nat.le_refl _), Nat.sub_self] at e1
      rw [sa.len, List.getElem?_append_right (Nat.le_refl _), Nat.sub_self] at e2
      simp at e1 e2
      subst e1; subst e2
      exact ⟨av, h0, r.adopt⟩
theorem Stp.adopt (st : Stp T S) {p : Addr} (h : T.H p = none) : Stp T (S.adopt p) := ⟨st.pre.trans (List.prefix_append _ _), st.ext, fun a u hn h1 h2 h3 => by
  have ne : a ≠ p := ne_of_none h1 h
  obtain ⟨k1, k2, k3⟩ := st.frame a u hn h1 h2 h3
  refine ⟨k1, k2, fun z => ?_⟩
  rcases List.mem_append.mp (show a ∈ S.i ++ [p] from z) with z | z
  · exact k3 z
  · exact ne (List.mem_singleton.mp z), st.old⟩
end
open Classical in
/-- the elements, the store being as gd says at each turn -/
noncomputable def dCompG (gd : Mu → Prop) (g : DG) (c : DT) (b : DE) (e : En) : List D → Mu → List D → Res (List D)
  | [], m, acc => if gd m then .ok acc m else .stuck
  | d :: ds, m, acc => if gd m then (match g d e with
    | none => .stuck
    | some e1 => match c e1 m with
      | .ok true m1 => match b e1 m1 with
        | .ok x m2 => if acc.length < sizeLine then dCompG gd g c b e ds m2 (acc ++ [x]) else .stuck
        | _ => .stuck
      | .ok false m1 => dCompG gd g c b e ds m1 acc
      | _ => .stuck) else .stuck
def fF : List D → Mu → Res D := fun xs m => .ok (.lst xs) m
def fM : List D → Mu → Res D := fun xs m => .ok (.loc m.length) (m ++ [.lst xs])
/-- over a frozen list or one of the store -/
noncomputable def comp1 (fin : List D → Mu → Res D) (g : DG) (c : DT) (b : DE) (e : En) (d : D) (m : Mu) : Res D := match d with
  | .lst ds => (dCompL g c b e ds m []).bind fin
  | .loc n => match m[n]? with
    | some (.lst ds) => (dCompG (fun m => m[n]? = some (.lst ds)) g c b e ds m []).bind fin
    | _ => .stuck
  | _ => .stuck
noncomputable def dCompS (fin : List D → Mu → Res D) (t : DE) (g : DG) (c : DT) (b : DE) (own : List Nat) : DE := fun e m => (t e m).bind fun d m1 => comp1 fin g c b (wipeE e own) d m1
noncomputable def dCompM (t : DA) (g : DG) (c : DT) (b : DE) (own : List Nat) : DE := fun e m => (t e m).bind fun ds m1 => (dCompL g c b (wipeE e own) ds m1 []).bind fM
theorem compG_true (g : DG) (c : DT) (b : DE) (e : En) : ∀ (ds : List D) (m : Mu) (acc : List D), dCompG (fun _ => True) g c b e ds m acc = dCompL g c b e ds m acc
  | [], m, acc => by unfold dCompG dCompL; simp
  | d :: ds, m, acc => by
    unfold dCompG dCompL
    rw [if_pos trivial]
    cases g d e with
    | none => rfl
    | some e1 =>
      dsimp only
      cases c e1 m with
      | stuck => rfl
      | exc C fs m1 => rfl
      | ok k m1 =>
        cases k with
        | false => exact compG_true g c b e ds m1 acc
        | true =>
          dsimp only
          cases b e1 m1 with
          | stuck => rfl
          | exc C fs m2 => rfl
          | ok x m2 =>
            dsimp only
            rw [compG_true g c b e ds m2 (acc ++ [x])]
def ItOkG (K : PySem.W.Frag) (gd : Mu → Prop) (T : Wd) (J : It) (ds : List D) : Prop := ∀ (U : Wd) (m : Mu) (i : Nat), Stp T U → Sta K U m → gd m →
  (∀ d, ds[i]? = some d → J.go i U.H ∧ ∀ x H', J.yld i U.H x H' → ∃ Y : Wd, Y.H = H' ∧ Stp U Y ∧ Sta K Y m ∧ Rep K Y.i Y.F d x) ∧ (ds.length ≤ i → J.stop i U.H)
def FinOk (K : PySem.W.Frag) (fin : List D → Mu → Res D) : Prop := ∀ (T U : Wd) (m : Mu) (acc : List D) (av : List V) (p : Addr) (Q : VK) (W : XK), Stp T U → Sta K U m → T.H p = none → U.H p = some (.lst av) → U.F p = none → p ∉ U.i → Reps K U.i U.F acc av → PostD K T (fin acc m) Q W → Q (.ref p) U.H
theorem fin_F (K : PySem.W.Frag) : FinOk K fF := fun T U m acc av p Q W st sa h0 h1 h2 h3 r q =>
  q (.ref p) (U.keep p (.lst av)) (st.kept h0 h2) (sa.keep h1 h2 h3 (by exact nofun)) (.lst (.inl (.inl upd_same)) (r.mono (List.prefix_refl _) (Ext.updNew h2)))
theorem fin_M (K : PySem.W.Frag) : FinOk K fM := fun T U m acc av p Q W st sa h0 h1 h2 h3 r q =>
  q (.ref p) (U.adopt p) (st.adopt h0) (sa.adopt h1 h2 h3 r) (.loc (by
    show (U.i ++ [p])[m.length]? = some p
    rw [← sa.len, List.getElem?_append_right (Nat.le_refl _), Nat.sub_self]; rfl))
section
variable {X : Cx} {elt tg iter : Expr} {ifs : List Expr} {scope : Scope} {own : List (Str × Nat)} {pos spos : Pos} {t : DA} {ta : DE} {g : DG} {c : DT} {b : DE} {sl : List Nat} {fin : List D → Mu → Res D} {gd : Mu → Prop}
theorem lc_goG {σ : L2.St} {T : Wd} {r : En} {m1 : Mu} {Q : VK} {ds : List D} {J : It}
    (hg : ∀ s H C cl fp, PDG (Bk X scope s H C cl fp) tg g sl) (ht : ∀ s H C cl fp, PDTs (Bk X scope s H C cl fp) ifs c) (he : ∀ s H C cl fp, PDE (Bk X scope s H C cl fp) elt b)
    (hsl : ∀ i ∈ sl, i ∈ own.map (·.2)) (hfin : FinOk X.K fin)
    (sa1 : Sta X.K T m1) (re : RelE X.K T r σ) (hJ : ItOkG X.K gd T J ds) (p : PostD X.K T ((dCompG gd g c b (wipeE r (own.map (·.2))) ds m1 []).bind fin) Q (fun c d H => Fly X c d σ H)) :
    ∀ Dd : Addr, T.H Dd = none → ∃ Wi : Nat → Nat → Hp → Prop, (∃ n, Wi 0 n (upd T.H Dd (.lst []))) ∧ ∀ i n H', Wi i n H' →
      (J.stop i H' ∧ Q (.ref Dd) H') ∨ (J.go i H' ∧ ∃ N : Hp → Prop, (∀ H2, N H2 → ∃ n', n' < n ∧ Wi (i + 1) n' H2) ∧
        ∀ x H2, J.yld i H' x H2 → bG X scope tg x (wipe σ (own.map (·.2))) H2 fun σ1 H3 => wipe σ1 (own.map (·.2)) = wipe σ (own.map (·.2)) ∧
          bT X scope ifs σ1 H3 fun k H4 => if k = true then bE X scope elt σ1 H4 fun y H5 => ∃ xs, H5 Dd = some (.lst xs) ∧ xs.length < sizeLine ∧ N (upd H5 Dd (.lst (xs ++ [y]))) else N H4) := by
  intro Dd hD
  have reW : RelE X.K T (wipeE r (own.map (·.2))) (wipe σ (own.map (·.2))) := re.wipe _
  have f0 := sa1.fresh hD
  refine ⟨fun i n H' => n = ds.length - i ∧ i ≤ ds.length ∧ ∃ (U : Wd) (m' : Mu) (acc : List D) (av : List V), U.H = H' ∧ Stp T U ∧ Sta X.K U m' ∧ U.H Dd = some (.lst av) ∧ U.F Dd = none ∧ Dd ∉ U.i ∧ Reps X.K U.i U.F acc av ∧
      PostD X.K T ((dCompG gd g c b (wipeE r (own.map (·.2))) (ds.drop i) m' acc).bind fin) Q (fun c d H => Fly X c d σ H),
    ⟨ds.length, by simp, Nat.zero_le _, T.put Dd (.lst []), m1, [], [], rfl, (Stp.refl T).hid hD, sa1.hid f0.1 f0.2 (by rw [hD]; exact nofun), upd_same, f0.1, f0.2, .nil, p⟩, ?_⟩
  rintro i n H' ⟨rfl, hi', U, m', acc, av, rfl, stU, saU, hU1, hU2, hU3, rA, pU⟩
  by_cases hlt : i < ds.length
  · rw [List.drop_eq_getElem_cons hlt] at pU
    unfold dCompG at pU
    split at pU
    · rename_i hgd
      have hJ1 := (hJ U m' i stU saU hgd).1 _ (List.getElem?_eq_getElem hlt)
      refine .inr ⟨hJ1.1, fun H2 => i + 1 ≤ ds.length ∧ ∃ (U : Wd) (m' : Mu) (acc : List D) (av : List V), U.H = H2 ∧ Stp T U ∧ Sta X.K U m' ∧ U.H Dd = some (.lst av) ∧ U.F Dd = none ∧ Dd ∉ U.i ∧ Reps X.K U.i U.F acc av ∧
          PostD X.K T ((dCompG gd g c b (wipeE r (own.map (·.2))) (ds.drop (i + 1)) m' acc).bind fin) Q (fun c d H => Fly X c d σ H),
          fun H2 h2 => ⟨ds.length - (i + 1), by omega, rfl, h2.1, h2.2⟩, fun x H2 hy => ?_⟩
      obtain ⟨Y, rfl, stY, saY, rdY⟩ := hJ1.2 x H2 hy
      obtain ⟨y1, y2, y3⟩ := stY.frame Dd _ (by exact nofun) hU1 hU2 hU3
      have stT := stU.trans stY
      cases qg : g ds[i] (wipeE r (own.map (·.2))) with
      | none => rw [qg] at pU; exact (show False from pU).elim
      | some e1 =>
        rw [qg] at pU
        dsimp only at pU
        intro s0 H0 C0 cl0 fp0
        refine hg s0 H0 C0 cl0 fp0 Y (wipeE r (own.map (·.2))) m' (wipe σ (own.map (·.2))) ds[i] x e1 _ saY (reW.stp stT) rdY qg ?_
        intro σ1 re1 bs
        refine ⟨?_, ?_⟩
        · rw [bs _ hsl]
          exact wipe_wipe _ _
        intro s0 H0 C0 cl0 fp0
        cases qc : c e1 m' with
        | stuck => rw [qc] at pU; exact (show False from pU).elim
        | exc C fs m2 => rw [qc] at pU; exact (show False from pU).elim
        | ok k m2 =>
          rw [qc] at pU
          refine ht s0 H0 C0 cl0 fp0 Y e1 m' σ1 _ saY re1 ?_
          rw [qc]
          intro k' Z stZ saZ hk
          cases (show k = k' from hk)
          obtain ⟨z1, z2, z3⟩ := stZ.frame Dd _ (by exact nofun) y1 y2 y3
          cases k with
          | false =>
            exact iteF ⟨hlt, Z, m2, acc, av, rfl, stT.trans stZ, saZ, z1, z2, z3, (rA.stp stY).stp stZ, pU⟩
          | true =>
            refine iteT ?_
            intro s0 H0 C0 cl0 fp0
            dsimp only at pU
            cases qb : b e1 m2 with
            | stuck => rw [qb] at pU; exact (show False from pU).elim
            | exc C fs m3 => rw [qb] at pU; exact (show False from pU).elim
            | ok dx m3 =>
              rw [qb] at pU
              refine he s0 H0 C0 cl0 fp0 Z e1 m2 σ1 _ saZ (re1.stp stZ) ?_
              rw [qb]
              intro vx V1 stV saV rx
              obtain ⟨w1, w2, w3⟩ := stV.frame Dd _ (by exact nofun) z1 z2 z3
              dsimp only at pU
              split at pU
              · rename_i hlen
                refine ⟨av, w1, by rw [← rA.len]; exact hlen, hlt, V1.put Dd (.lst (av ++ [vx])), m3, acc ++ [dx], av ++ [vx], rfl, ((stT.trans stZ).trans stV).hid hD, saV.hid w2 w3 (by rw [w1]; exact nofun), upd_same, w2, w3, ((((rA.stp stY).stp stZ).stp stV)).append (.cons rx .nil), pU⟩
              · exact (show False from pU).elim
    · exact (show False from pU).elim
  · have e : i = ds.length := by omega
    subst e
    rw [List.drop_length] at pU
    unfold dCompG at pU
    split at pU
    · rename_i hgd
      exact .inl ⟨(hJ U m' _ stU saU hgd).2 (Nat.le_refl _), hfin T U m' acc av Dd Q _ stU saU hD hU1 hU2 hU3 rA pU⟩
    · exact (show False from pU).elim
theorem lc_goS {σ : L2.St} {S : Wd} {r : En} {m : Mu} {Q : VK} (hi : PDE X iter ta)
    (hg : ∀ s H C cl fp, PDG (Bk X scope s H C cl fp) tg g sl) (ht : ∀ s H C cl fp, PDTs (Bk X scope s H C cl fp) ifs c) (he : ∀ s H C cl fp, PDE (Bk X scope s H C cl fp) elt b)
    (hsl : ∀ i ∈ sl, i ∈ own.map (·.2)) (hfin : FinOk X.K fin)
    (sa : Sta X.K S m) (re : RelE X.K S r σ) (p : PostD X.K S (dCompS fin ta g c b (own.map (·.2)) r m) Q (fun c d H => Fly X c d σ H)) :
    tLc (iList X.K (WE X iter)) (bG X scope tg) (bT X scope ifs) (bE X scope elt) (own.map (·.2)) σ S.H Q := by
  refine hi S r m σ _ sa re (Post.bindI p fun d m1 v T st sa1 rd q => ?_)
  unfold comp1 at q
  split at q
  · rename_i ds
    obtain ⟨a, xs, rfl, hr, kk⟩ := frozen sa1 rd
    refine ⟨a, rfl, ⟨xs, (kk T m1 (Stp.refl T) sa1).1⟩, ?_⟩
    rw [← compG_true] at q
    refine lc_goG hg ht he hsl hfin sa1 (re.stp st) (fun U m' i st' sa' _ => ⟨fun d hd => ?_, fun hl => ⟨xs, (kk U m' st' sa').1, by rw [← hr.len]; exact hl⟩⟩) q
    obtain ⟨v, hv, rv⟩ := (kk U m' st' sa').2.get hd
    refine ⟨⟨xs, v, (kk U m' st' sa').1, hv⟩, fun x H' hy => ⟨U, hy.1.symm, Stp.refl U, sa', ?_⟩⟩
    have := hy.2 xs (kk U m' st' sa').1
    rw [hv] at this; cases this
    exact rv
  · rename_i n
    split at q
    · rename_i ds e0
      cases rd with
      | @loc _ a ha =>
      have look : ∀ U m', Stp T U → Sta X.K U m' → m'[n]? = some (.lst ds) → ∃ xs, SqL X.K U.H a xs ∧ Reps X.K U.i U.F ds xs := fun U m' st' sa' e' => by
        obtain ⟨xs, q1, q2⟩ := sa'.ok n a _ (pre_get st'.pre ha) e'
        exact ⟨xs, .inl (.inl q1), q2⟩
      obtain ⟨xs0, k1, k2⟩ := look T m1 (Stp.refl T) sa1 e0
      refine ⟨a, rfl, ⟨xs0, k1⟩, ?_⟩
      refine lc_goG (gd := fun m => m[n]? = some (.lst ds)) hg ht he hsl hfin sa1 (re.stp st) (fun U m' i st' sa' hgd => ?_) q
      obtain ⟨xs, l1, l2⟩ := look U m' st' sa' hgd
      refine ⟨fun d hd => ?_, fun hl => ⟨xs, l1, by rw [← l2.len]; exact hl⟩⟩
      obtain ⟨v, hv, rv⟩ := l2.get hd
      refine ⟨⟨xs, v, l1, hv⟩, fun x H' hy => ⟨U, hy.1.symm, Stp.refl U, sa', ?_⟩⟩
      have := hy.2 xs l1
      rw [hv] at this; cases this
      exact rv
    · exact (show False from q).elim
  · exact (show False from q).elim
theorem lc_goM {σ : L2.St} {S : Wd} {r : En} {m : Mu} {Q : VK} (hi : PDI X tg iter t)
    (hg : ∀ s H C cl fp, PDG (Bk X scope s H C cl fp) tg g sl) (ht : ∀ s H C cl fp, PDTs (Bk X scope s H C cl fp) ifs c) (he : ∀ s H C cl fp, PDE (Bk X scope s H C cl fp) elt b)
    (hsl : ∀ i ∈ sl, i ∈ own.map (·.2))
    (sa : Sta X.K S m) (re : RelE X.K S r σ) (p : PostD X.K S (dCompM t g c b (own.map (·.2)) r m) Q (fun c d H => Fly X c d σ H)) :
    tLc (WI X tg iter) (bG X scope tg) (bT X scope ifs) (bE X scope elt) (own.map (·.2)) σ S.H Q := by
  refine hi S r m σ _ sa re ?_
  unfold dCompM at p
  cases q : t r m with
  | stuck => rw [q] at p; exact p
  | exc C fs m1 => rw [q] at p; exact p
  | ok ds m1 =>
    rw [q] at p
    intro J T st sa1 hJ
    have pT : PostD X.K T ((dCompL g c b (wipeE r (own.map (·.2))) ds m1 []).bind fM) Q (fun c d H => Fly X c d σ H) := Post.step st p
    rw [← compG_true] at pT
    exact lc_goG hg ht he hsl (fin_M X.K) sa1 (re.stp st) (fun U m' i st' sa' _ => hJ U m' i st' sa') pT
abbrev mxBG (X : Cx) (scope : Scope) (tg : Expr) : ∀ s H C cl fp, PG (Bk X scope s H C cl fp) tg (bG X scope tg) := fun s H C cl fp => ⟨fun pins s1 σ H1 v u Q I r h => h s H C cl fp pins s1 u I r⟩
abbrev mxBT (X : Cx) (scope : Scope) (ifs : List Expr) : ∀ s H C cl fp, PTs (Bk X scope s H C cl fp) ifs (bT X scope ifs) := fun s H C cl fp => ⟨fun pins s1 σ H1 Q I h => h s H C cl fp pins s1 I⟩
abbrev mxBE (X : Cx) (scope : Scope) (elt : Expr) : ∀ s H C cl fp, PE (Bk X scope s H C cl fp) elt (bE X scope elt) := fun s H C cl fp => ⟨fun pins s1 σ H1 Q I h => h s H C cl fp pins s1 I⟩
theorem pd_lcS (hi : PDE X iter ta) (hN : X.N.Nodup) (ok : BlkOk X.N X.env.scope scope own)
    (hg : ∀ s H C cl fp, PDG (Bk X scope s H C cl fp) tg g sl) (ht : ∀ s H C cl fp, PDTs (Bk X scope s H C cl fp) ifs c) (he : ∀ s H C cl fp, PDE (Bk X scope s H C cl fp) elt b) (hfin : FinOk X.K fin)
    (hc : X.calm = true) (hsl : ∀ i ∈ sl, i ∈ own.map (·.2) := by decide) (hs : ∀ x, foldedSetIterable iter X.env x = pure x := by intro _; rfl) :
    PDE X (.ListComp elt [⟨tg, iter, ifs, 0⟩] scope pos) (dCompS fin ta g c b (own.map (·.2))) :=
  pd_of (pe_lc hc hN (pi_list (mxE X iter)) ok (mxBG X scope tg) (mxBT X scope ifs) (mxBE X scope elt) hs) fun S r m σ Q sa re p => lc_goS hi hg ht he hsl hfin sa re p
theorem pd_lcM (hi : PDI X tg iter t) (hN : X.N.Nodup) (ok : BlkOk X.N X.env.scope scope own)
    (hg : ∀ s H C cl fp, PDG (Bk X scope s H C cl fp) tg g sl) (ht : ∀ s H C cl fp, PDTs (Bk X scope s H C cl fp) ifs c) (he : ∀ s H C cl fp, PDE (Bk X scope s H C cl fp) elt b)
    (hc : X.calm = true) (hsl : ∀ i ∈ sl, i ∈ own.map (·.2) := by decide) (hs : ∀ x, foldedSetIterable iter X.env x = pure x := by intro _; rfl) :
    PDE X (.ListComp elt [⟨tg, iter, ifs, 0⟩] scope pos) (dCompM t g c b (own.map (·.2))) :=
  pd_of (pe_lc hc hN (mxI X tg iter) ok (mxBG X scope tg) (mxBT X scope ifs) (mxBE X scope elt) hs) fun S r m σ Q sa re p => lc_goM hi hg ht he hsl sa re p
theorem pds_setLcS {i : Nat} {y : Str} {py : Pos} (hi : PDE X iter ta) (hN : X.N.Nodup) (ok : BlkOk X.N X.env.scope scope own)
    (hg : ∀ s H C cl fp, PDG (Bk X scope s H C cl fp) tg g sl) (ht : ∀ s H C cl fp, PDTs (Bk X scope s H C cl fp) ifs c) (he : ∀ s H C cl fp, PDE (Bk X scope s H C cl fp) elt b) (hfin : FinOk X.K fin)
    (hc : X.calm = true) (hsw : swapsWith (.ListComp elt [⟨tg, iter, ifs, 0⟩] scope pos) (some (.Name y py)) spos.line X.env = pure true) (hsl : ∀ i ∈ sl, i ∈ own.map (·.2) := by decide) (hy : X.N[i]? = some y := by rfl) (hyl : X.env.scope.names.lookup y = some .local := by rfl) (hs : ∀ x, foldedSetIterable iter X.env x = pure x := by intro _; rfl) :
    PDS X (.Assign [.Name y py] (.ListComp elt [⟨tg, iter, ifs, 0⟩] scope pos) spos) (dSet i (dCompS fin ta g c b (own.map (·.2)))) := by
  refine ps_of (ps_setLc hc hN hy hyl hsw (pi_list (mxE X iter)) ok (mxBG X scope tg) (mxBT X scope ifs) (mxBE X scope elt) hs) fun S r m σ N sa re p => ?_
  exact lc_goS hi hg ht he hsl hfin sa re (PDE.stm re p fun d m1 v T st sa1 rd q => q _ T (Stp.refl T) sa1 ((re.stp st).set i rd))
theorem pds_setLcM {i : Nat} {y : Str} {py : Pos} (hi : PDI X tg iter t) (hN : X.N.Nodup) (ok : BlkOk X.N X.env.scope scope own)
    (hg : ∀ s H C cl fp, PDG (Bk X scope s H C cl fp) tg g sl) (ht : ∀ s H C cl fp, PDTs (Bk X scope s H C cl fp) ifs c) (he : ∀ s H C cl fp, PDE (Bk X scope s H C cl fp) elt b)
    (hc : X.calm = true) (hsw : swapsWith (.ListComp elt [⟨tg, iter, ifs, 0⟩] scope pos) (some (.Name y py)) spos.line X.env = pure true) (hsl : ∀ i ∈ sl, i ∈ own.map (·.2) := by decide) (hy : X.N[i]? = some y := by rfl) (hyl : X.env.scope.names.lookup y = some .local := by rfl) (hs : ∀ x, foldedSetIterable iter X.env x = pure x := by intro _; rfl) :
    PDS X (.Assign [.Name y py] (.ListComp elt [⟨tg, iter, ifs, 0⟩] scope pos) spos) (dSet i (dCompM t g c b (own.map (·.2)))) := by
  refine ps_of (ps_setLc hc hN hy hyl hsw (mxI X tg iter) ok (mxBG X scope tg) (mxBT X scope ifs) (mxBE X scope elt) hs) fun S r m σ N sa re p => ?_
  exact lc_goM hi hg ht he hsl sa re (PDE.stm re p fun d m1 v T st sa1 rd q => q _ T (Stp.refl T) sa1 ((re.stp st).set i rd))
end
end DL
namespace DL
open PySem PySem.Spec PyProof.Rows L2
variable [LamTab]
section
variable {X : Cx} {a : Expr} {ta : DE} {pos : Pos} {k : Nat}
def dNotO (rows : List (Kl × DFn)) (t : DE) : DE := fun e m => (dTrO rows t e m).bind fun b m => .ok (.bl !b) m
theorem pd_notO {rows : List (Kl × DFn)} (ha : PDE X a ta) (hrows : ∀ r ∈ rows, MRow X.prog X.w X.K X.mg X.base k "__bool__" r.1 r.2) (hr : Room k X.A) : PDE X (.UnaryOp .Not a pos) (dNotO rows ta) := by
  intro S r m σ Q sa re p pins s I
  unfold dNotO dTrO at p
  have p : PostD X.K S ((ta r m).bind fun d m => ((match dTru m d with
  | some b => .ok b m
  | none => match insOf m d with
    | some (C, ns, _) => match methAt rows C ns with
      | some G => (G [d] m).bind fun r m => match r with
        | .bl b => .ok b m
        | _ => .stuck
      | none => .stuck
    | none => .stuck) : Res Bool).bind fun b m => .ok (.bl !b) m) Q (fun c d H => Fly X c d σ H) := by
    cases h : ta r m with
    | stuck => rw [h] at p; exact p
    | exc C fs m1 => rw [h] at p; exact p
    | ok d m1 => rw [h] at p; exact p
  refine UnaryOp_ (thn (ha.run sa re p I) ?_)
  rintro u s1 ⟨x, d, m1, T, st, sa1, rd, rx, I1, q⟩
  split at q
  · rename_i b e
    exact not_of (tru_ok pins s1 σ T.H x u (fun b H => Q (.bl !b) H) I1 rx ⟨b, dTru_ok sa1 rd e, Post.ok q (Stp.refl T) sa1 (.bl _)⟩ |> fun h => thn h fun b s2 ⟨H2, I2, q2⟩ => ⟨.bl !b, H2, I2, rfl, q2⟩)
  · split at q
    · rename_i C ns ds ei
      split at q
      · rename_i G eG
        obtain ⟨c, ok, rfl, rfl⟩ := methAt_ok (P := MRow X.prog X.w X.K X.mg X.base k "__bool__") hrows eG
        obtain ⟨a, dx, vs, rfl, h1, h2, h3⟩ := insOf_ok sa1 rd ei
        obtain ⟨f, fd, ps, dds, G0, hf1, hf2, hk, hf, hb, rfl⟩ := ok.ex
        obtain rfl : u = Value.ref a := rx
        obtain ⟨od1, J1⟩ := Inv.inst I1 h1
        obtain ⟨mm, F⟩ := I1.fr
        have q : PostD X.K T ((padF ps.length dds G0 [d] m1).bind fun r m => ((match r with
          | .bl b => .ok b m
          | _ => .stuck : Res Bool)).bind fun b m => .ok (.bl !b) m) Q (fun c d H => Fly X c d σ H) := by
          cases h : padF ps.length dds G0 [d] m1 with
          | stuck => rw [h] at q; exact q
          | exc C fs m1 => rw [h] at q; exact q
          | ok d m1 => rw [h] at q; exact q
        refine not_of (PySem.W.truthy_K F I1.ok.mod.kin J1 hf1 hf2 (thn (run_fnA (us := [.ref a]) hf hr hb rfl I1 sa1 (.cons rd .nil) (.cons rfl .nil) (Post.bindI q fun r m2 v U st2 sa2 rv q2 => ?_)) fun v s2 h => boolBack (pins := pins) (σ := σ) h))
        cases rv with
        | bl b => exact ⟨b, rfl, fun s I => ⟨.bl !b, U.H, I, rfl, Post.ok q2 (Stp.refl U) sa2 (.bl _)⟩⟩
        | _ => exact (show False from q2).elim
      · exact (show False from q).elim
    · exact (show False from q).elim
end
end DL
namespace DL
open PySem PySem.Spec PyProof.Rows L2
variable [LamTab]
section
variable {X : Cx} {es : List Expr} {pos : Pos}
/-- a, b = a list -/
def dLstG (n : Nat) (g : List D → En → Option En) : DG := fun d e => match d with
  | .lst ds => if ds.length = n then g ds e else none
  | _ => none
@[simp ↓] theorem dLstG_ap (n : Nat) (g : List D → En → Option En) (d : D) (e : En) : dLstG n g d e = match d with
  | .lst ds => if ds.length = n then g ds e else none
  | _ => none := rfl
theorem pdg_lst {n k : Nat} {g : List D → En → Option En} {sl : List Nat} (hc : X.calm = true) (h : PDGs X es g sl) (hn : (assignEach es X.env).length = n := by rfl) (hst : (assignEach es X.env).findIdx? (·.1) = none := by rfl) : PDG X (.Tuple es k pos) (dLstG n g) sl := by
  intro S e m σ d v e1 Q sa re rd hh q pins s u I r
  cases rd with
  | lst h1 h2 =>
    unfold dLstG at hh
    dsimp only at hh
    split at hh
    · rename_i hl
      exact (pg_unl hc (mxGs X es) hn hst).run pins s σ S.H _ u Q I r ⟨_, _, rfl, SqL.ext' h1 sa.sub, by rw [← h2.len]; exact hl, h S e m σ _ _ e1 Q sa re h2 hh q⟩
    · cases hh
  | _ => cases hh
end
end DL
/-! ### equations for simp -/
namespace DL
open PySem PySem.Spec PyProof.Rows L2
variable [LamTab]
@[simp ↓] theorem dTrO_ap (rows : List (Kl × DFn)) (t : DE) (e : En) (m : Mu) : dTrO rows t e m = (t e m).bind fun d m => match dTru m d with
  | some b => .ok b m
  | none => match insOf m d with
    | some (C, ns, _) => match methAt rows C ns with
      | some G => (G [d] m).bind fun r m => match r with
        | .bl b => .ok b m
        | _ => .stuck
      | none => .stuck
    | none => .stuck := rfl
@[simp ↓] theorem dNotO_ap (rows : List (Kl × DFn)) (t : DE) (e : En) (m : Mu) : dNotO rows t e m = (dTrO rows t e m).bind fun b m => .ok (.bl !b) m := rfl
@[simp] theorem gCat_ap (x y : D) (m : Mu) : gCat x y m = match seqL m x, seqL m y with
  | some xs, some ys => if xs.length + ys.length ≤ sizeLine then .ok (.lst (xs ++ ys)) m else .stuck
  | _, _ => .stuck := rfl
@[simp] theorem gCatM_ap (x y : D) (m : Mu) : gCatM x y m = match seqL m x, seqL m y with
  | some xs, some ys => if xs.length + ys.length ≤ sizeLine then .ok (.loc m.length) (m ++ [.lst (xs ++ ys)]) else .stuck
  | _, _ => .stuck := rfl
@[simp] theorem seqL_loc (m : Mu) (n : Nat) : seqL m (.loc n) = match m[n]? with
  | some (.lst ds) => some ds
  | _ => none := rfl
@[simp] theorem eqRow_nil (C : Addr) (ns : List Str) : eqRow [] C ns = none := rfl
@[simp] theorem eqRow_cons (c : Kl) (G : DFn × List Tg) (rest : List (Kl × DFn × List Tg)) (C : Addr) (ns : List Str) : eqRow ((c, G) :: rest) C ns = if C = c.a ∧ ns = c.ns then some G else eqRow rest C ns := rfl
@[simp ↓] theorem dMethK_ap (rows : List (Kl × DFn)) (n nk : Nat) (to : DE) (t u : DA) (e : En) (m : Mu) : dMethK rows n nk to t u e m = (to e m).bind fun o m1 => match insOf m1 o with
  | some (C, ns, _) => match methAt rows C ns with
    | some G => (t e m1).bind fun ds m2 => (u e m2).bind fun zs m3 => if ds.length = n ∧ zs.length = nk then G (o :: (ds ++ zs)) m3 else .stuck
    | none => .stuck
  | none => .stuck := rfl
@[simp] theorem dOwnEq_ap (neg : Bool) (rows : List (Kl × DFn × List Tg)) (x y : D) (m : Mu) : dOwnEq neg rows x y m = match insOf m x with
  | some (C, ns, _) => match eqRow rows C ns, tagOf m y with
    | some (G, ts), some t => if t ∈ ts then ((G [x, y] m).bind fun r m1 => match r with
        | .bl b => .ok (.bl (neg ^^ b)) m1
        | _ => .stuck) else .stuck
    | _, _ => .stuck
  | none => .stuck := rfl
@[simp] theorem dOwnIn_ap (neg : Bool) (rows : List (Kl × DFn)) (x y : D) (m : Mu) : dOwnIn neg rows x y m = match insOf m y with
  | some (C, ns, _) => match methAt rows C ns with
    | some G => (G [y, x] m).bind fun r m1 => match r with
      | .bl b => .ok (.bl (neg ^^ b)) m1
      | _ => .stuck
    | _ => .stuck
  | none => .stuck := rfl
@[simp] theorem dOwnStr_ap (rows : List (Kl × DFn)) (x : D) (m : Mu) : dOwnStr rows [x] m = match insOf m x with
  | some (C, ns, _) => match methAt rows C ns with
    | some G => (G [x] m).bind fun r m1 => match r with
      | .str z => .ok (.str z) m1
      | _ => .stuck
    | none => .stuck
  | none => .stuck := rfl
@[simp ↓] theorem dFmt_ap (rows : List (Kl × DFn)) (t : DE) (e : En) (m : Mu) : dFmt rows t e m = (t e m).bind fun d m1 => match d with
  | .str y => if y.length ≤ sizeLine then .ok (.str y) m1 else .stuck
  | .int i => if i.natAbs.log2 < 1920 then .ok (.str (toString i)) m1 else .stuck
  | d => dOwnStr rows [d] m1 := rfl
@[simp ↓] theorem dJs_nil (acc : Str) (e : En) (m : Mu) : dJs [] acc e m = .ok (.str acc) m := rfl
@[simp ↓] theorem dJs_cons (t : DE) (ts : List DE) (acc : Str) (e : En) (m : Mu) : dJs (t :: ts) acc e m = (t e m).bind fun d m1 => match d with
  | .str y => if (acc ++ y).length ≤ sizeLine then dJs ts (acc ++ y) e m1 else .stuck
  | _ => .stuck := rfl
@[simp ↓] theorem dForS_ap (t : DE) (g : DG) (b : DS) (e : En) (m : Mu) : dForS t g b e m = rsOf e (t e m) fun d m1 => forS1 g b d e m1 := rfl
@[simp ↓] theorem dCompS_ap (fin : List D → Mu → Res D) (t : DE) (g : DG) (c : DT) (b : DE) (own : List Nat) (e : En) (m : Mu) : dCompS fin t g c b own e m = (t e m).bind fun d m1 => comp1 fin g c b (wipeE e own) d m1 := rfl
@[simp ↓] theorem dCompM_ap (t : DA) (g : DG) (c : DT) (b : DE) (own : List Nat) (e : En) (m : Mu) : dCompM t g c b own e m = (t e m).bind fun ds m1 => (dCompL g c b (wipeE e own) ds m1 []).bind fM := rfl
@[simp] theorem fF_ap (xs : List D) (m : Mu) : fF xs m = .ok (.lst xs) m := rfl
@[simp] theorem fM_ap (xs : List D) (m : Mu) : fM xs m = .ok (.loc m.length) (m ++ [.lst xs]) := rfl
@[simp] theorem comp1_lst (fin : List D → Mu → Res D) (g : DG) (c : DT) (b : DE) (e : En) (ds : List D) (m : Mu) : comp1 fin g c b e (.lst ds) m = (dCompL g c b e ds m []).bind fin := rfl
@[simp ↓] theorem dLm_ap (f : List D → List D → Option (List D × D)) (to : DE) (t : DA) (e : En) (m : Mu) : dLm f to t e m = (to e m).bind fun o m1 => match o with
  | .loc n => match m1[n]? with
    | some (.lst _) => (t e m1).bind fun ds m2 => match m2[n]? with
      | some (.lst xs) => match f xs ds with
        | some (ys, d) => .ok d (m2.set n (.lst ys))
        | none => .stuck
      | _ => .stuck
    | _ => .stuck
  | _ => .stuck := rfl
@[simp] theorem fAppend_ap (xs : List D) (d : D) : fAppend xs [d] = if xs.length < sizeLine then some (xs ++ [d], .non) else none := rfl
@[simp] theorem fClear_ap (xs : List D) : fClear xs [] = some ([], .non) := rfl
@[simp ↓] theorem dCompL_cons (g : DG) (c : DT) (b : DE) (e : En) (d : D) (ds : List D) (m : Mu) (acc : List D) : dCompL g c b e (d :: ds) m acc = match g d e with
    | none => .stuck
    | some e1 => match c e1 m with
      | .ok true m1 => match b e1 m1 with
        | .ok x m2 => if acc.length < sizeLine then dCompL g c b e ds m2 (acc ++ [x]) else .stuck
        | _ => .stuck
      | .ok false m1 => dCompL g c b e ds m1 acc
      | _ => .stuck := rfl
end DL

namespace DL
open PySem PySem.Spec PyProof.Rows L2
variable [LamTab]
section
variable {X : Cx} {e o : Expr} {es : List Expr} {t : DA} {pos p : Pos} {x : Str} {k : Nat} {C : Addr} {G : DFn}
/-! ### C(a, k=b) -/
structure KTK (P : Program) (w : World) (K : PySem.W.Frag) (mg : Str → Option Value) (base : Heap) (k : Nat) (x : Str) (n : Nat) (ks : List Str) (C : Addr) (G : DFn) : Prop where
  mgx : mg x = some (.ref C)
  ex : ∃ (f : Addr) (fd : FuncData) (ps : List Str) (pl : List Nat) (dds : List D) (G0 : DFn), Mk K C f ∧ FnD P w K mg base k f fd ps G0 ∧ BK K fd ps (n + 1) ks pl dds ∧ G = fun ds m => match pick pl (ds ++ dds) with
    | some xs => G0 xs m
    | none => .stuck
theorem run_mkK {n : Nat} {ks : List Str} {pins : List (Addr × Obj)} {σ : L2.St} {T : Wd} {m : Mu} {s : Shared} {Q : VK} {us ws : List Value} {vs zs : List V} {das dzs : List D} (F : KTK X.prog X.w X.K X.mg X.base k x n ks C G) (hr : Room (k + 1) X.A)
    (I : Inv X pins σ T.H s) (sa : Sta X.K T m) (r : Reps X.K T.i T.F das vs) (rz : Reps X.K T.i T.F dzs zs) (rv : Vals vs us) (rw : Vals zs ws) (hn : das.length = n) (hk : dzs.length = ks.length) (h : PostD X.K T (mkObj C m (G (.loc m.length :: (das ++ dzs)) (m ++ [.ins C []]))) Q (fun c d H => Fly X c d σ H)) :
    wpAny (model X.prog X.w) X.A (call (.ref C) us (ks.zip ws)) (EP X pins σ Q) X.xe s := by
  obtain ⟨f, fd, ps, pl, dds, G0, M, hf, hb, rfl⟩ := F.ex
  obtain ⟨dsv, dvs, hd1, hD, hB⟩ := hb.ex
  have nx : T.H (s.heap.objs.size + 1) = none := I.hok.fresh (Nat.le_succ _)
  have ndx : T.H s.heap.objs.size = none := I.hok.fresh (Nat.le_refl _)
  have ne : s.heap.objs.size ≠ s.heap.objs.size + 1 := Nat.ne_of_lt (Nat.lt_succ_self _)
  have I2 := Inv.made (C := C) I
  have st1 := Stp.new sa (o := .own (s.heap.objs.size + 1)) ndx
  have sa1 := sa.new (o := .own (s.heap.objs.size + 1)) ndx
  have nx1 : (T.new s.heap.objs.size (.own (s.heap.objs.size + 1))).H (s.heap.objs.size + 1) = none := by
    show upd T.H _ _ _ = none
    rw [upd_ne ne.symm]; exact nx
  have st2 := Stp.tok sa1 (o := .ins C s.heap.objs.size []) nx1
  have sa2 := sa1.tok (o := .ins C s.heap.objs.size []) nx1 (q := .ins C []) ⟨s.heap.objs.size, [], upd_same, .nil⟩
  have st12 := st1.trans st2
  generalize hT2 : (T.new s.heap.objs.size (.own (s.heap.objs.size + 1))).tok (s.heap.objs.size + 1) (.ins C s.heap.objs.size []) = T2 at st2 sa2 st12
  have hH2 : T2.H = upd (upd T.H s.heap.objs.size (.own (s.heap.objs.size + 1))) (s.heap.objs.size + 1) (.ins C s.heap.objs.size []) := by rw [← hT2]; rfl
  have hi2 : T2.i = T.i ++ [s.heap.objs.size + 1] := by rw [← hT2]; rfl
  have hloc : T2.i[m.length]? = some (s.heap.objs.size + 1) := by
    rw [hi2, ← sa.len, List.getElem?_append_right (Nat.le_refl _), Nat.sub_self]; rfl
  have r1 : Reps X.K T2.i T2.F ((.loc m.length :: (das ++ dzs)) ++ dds) ((V.ref (s.heap.objs.size + 1) :: vs ++ zs) ++ dvs) := (Reps.cons (.loc hloc) ((r.stp st12).append (rz.stp st12))).append (hD _ _)
  have r2 : Vals ((V.ref (s.heap.objs.size + 1) :: vs ++ zs) ++ dvs) ((Value.ref (s.heap.objs.size + 1) :: us ++ ws) ++ dsv) := (Vals.append (xs := V.ref (s.heap.objs.size + 1) :: vs) (us := Value.ref (s.heap.objs.size + 1) :: us) (.cons (show RelV (V.ref (s.heap.objs.size + 1)) (Value.ref (s.heap.objs.size + 1)) from rfl) rv) rw).append hd1
  dsimp only at h
  cases hp : pick pl (D.loc m.length :: (das ++ dzs) ++ dds) with
  | none => rw [hp] at h; exact (show False from h).elim
  | some xs =>
    rw [hp] at h
    have h : PostD X.K T (mkObj C m (G0 xs (m ++ [.ins C []]))) Q (fun c d H => Fly X c d σ H) := h
    have l1 : (Value.ref (s.heap.objs.size + 1) :: us).length = n + 1 := by rw [List.length_cons, ← rv.length, ← r.len, hn]
    have l2 : ws.length = ks.length := by rw [← rw.length, ← rz.len]; exact hk
    rw [← hH2] at I2
    obtain ⟨b1, b2⟩ := hB _ (Value.ref (s.heap.objs.size + 1) :: us) ws I2.kIn l1 l2
    have rp := pick_reps r1 hp
    have vp := vals_pick r2 pl
    have hlv : (pl.filterMap fun i => ((V.ref (s.heap.objs.size + 1) :: vs ++ zs) ++ dvs)[i]?).length = ps.length := by rw [vp.length]; exact b2
    have hsp : spD X.K ps.length G0 (pl.filterMap fun i => ((V.ref (s.heap.objs.size + 1) :: vs ++ zs) ++ dvs)[i]?) T2.H (fun v H2 => v = .non ∧ Q (.ref (s.heap.objs.size + 1)) H2) (fun c d H => Fly X c d σ H) := by
      refine ⟨hlv, T2, m ++ [.ins C []], _, rfl, sa2, rp, ?_⟩
      cases hG : G0 xs (m ++ [.ins C []]) with
      | stuck => rw [hG] at h; exact (show False from h).elim
      | exc C' fs m2 =>
        rw [hG] at h
        exact fun dd vs' Z stZ hn saZ h1 h2 => h dd vs' Z (st12.trans stZ) (st12.old dd hn) saZ h1 h2
      | ok dv m2 =>
        rw [hG] at h
        intro v Z stZ saZ rdv
        unfold mkObj at h
        split at h
        · rename_i heq
          cases heq
          cases rdv
          refine ⟨rfl, ?_⟩
          split at h
          · rename_i C' fs e1
            split at h
            · rename_i hc
              obtain ⟨rfl, hm2, hcl, hbel⟩ := hc
              have hzi := pre_get stZ.pre hloc
              obtain ⟨dx, vv, q1, q2⟩ := saZ.ok _ _ _ hzi e1
              have htk : m2.take m.length = m := by rw [hm2]; simp
              have stTZ := st12.trans stZ
              obtain ⟨c1, c2⟩ := cut_ok sa stTZ saZ (by rw [htk]; exact hcl)
              rw [htk] at c2
              have hbel' : belows T.i.length (fs.map (·.2)) = true := by rw [sa.len]; exact hbel
              refine h (.ref (s.heap.objs.size + 1)) (Z.cut T.i) c1 c2 (.obj (dx := dx) (vs := vv) ?_ q2.split.1 (q2.split.2.cut saZ stTZ.pre hbel'))
              rw [cut_at sa stTZ saZ (Nat.le_refl _) hzi]
              exact q1
            · exact h.elim
          · exact h.elim
        · rename_i heq; cases heq
        · exact h.elim
    refine wpAny_call (make_map (f := f) I.kIn M.makes M.init (beq_iff_eq.mp M.fn) (codeAny_mono (hf.run _ X.stack _ _ ⟨Value.ref (s.heap.objs.size + 1) :: us, ks.zip ws⟩ _ _ _ _ (hr.make C us (ks.zip ws))
      (I2.env0.make C us (ks.zip ws)) b1 vp hsp) fun r s' hq' => ?_))
    cases r with
    | error e =>
      obtain ⟨a, B, sI, pins', σ', H', cls, d, e1, I', nb, up, sky, na, os, ag, e2, fl⟩ := XE.of_call I2 (W := fun c d σ' H => σ' = σ ∧ Fly X c d σ H) (fun cls d H' h => ⟨rfl, h⟩) hq'
      exact fl e s' ⟨a, B, sI, pins', σ', H', cls, d, e1, I', nb, up, sky, na, os, ag, rfl, rfl, e2, rfl⟩
    | ok fl =>
      cases fl with
      | ret u =>
        obtain ⟨v, H', I3, rv3, ev, q3⟩ := I2.after hq'
        subst ev
        exact ⟨rv3, ⟨V.ref (s.heap.objs.size + 1), H', I3, rfl, q3⟩⟩
      | next => exact False.elim hq'
      | brk => exact False.elim hq'
      | cont => exact False.elim hq'
noncomputable def dMakeK (C : Addr) (G : DFn) (n nk : Nat) (t u : DA) : DE := fun e m => (t e m).bind fun ds m1 => (u e m1).bind fun zs m2 => if ds.length = n ∧ zs.length = nk then mkObj C m2 (G (.loc m2.length :: (ds ++ zs)) (m2 ++ [.ins C []])) else .stuck
@[simp ↓] theorem dMakeK_ap (C : Addr) (G : DFn) (n nk : Nat) (t u : DA) (e : En) (m : Mu) : dMakeK C G n nk t u e m = (t e m).bind fun ds m1 => (u e m1).bind fun zs m2 => if ds.length = n ∧ zs.length = nk then mkObj C m2 (G (.loc m2.length :: (ds ++ zs)) (m2 ++ [.ins C []])) else .stuck := rfl
theorem pd_makeK {n : Nat} {ks : List Str} {kws : List Keyword} {tk : DA} (F : KTK X.prog X.w X.K X.mg X.base k x n ks C G) (hr : Room (k + 1) X.A) (ha : PDA X (e :: es) t) (hkw : PDK X kws tk)
    (hks : (backToKw pos (keywordEach kws X.env)).filterMap (·.1) = ks := by rfl) (hall : (backToKw pos (keywordEach kws X.env)).all (·.1.isSome) = true := by rfl)
    (hg : Gl X x := by rfl) (hdb : (x == ("__debug__" : Str)) = false := by decide) (he : starEach (e :: es) X.env = (false, eval e X.env) :: starEach es X.env := by exact se_cons _ _ _ rfl)
    (hpl : ((backTo pos (starEach (e :: es) X.env)).any (·.1) || (backToKw pos (keywordEach kws X.env)).any (·.1.isNone)) = false := by rfl) :
    PDE X (.Call (.Name x p) (e :: es) kws pos) (dMakeK C G n ks.length t tk) := by
  intro S r m σ Q sa re q pins s I
  refine wpAny_Call_Name_kw (ld_glob I hg F.mgx ?_ hdb)
  obtain ⟨_, _, _, _, _, _, M, _⟩ := F.ex
  refine PySem.W.callWith_KW (h₀ := X.base) I.ok.mod.kin M.kp hall (thn (ha.run sa re q I pos) ?_) hpl he
  rintro us s1 ⟨xs, das, m1, T, st, sa1, rds, rv, I1, q1⟩
  refine thn (hkw.run sa1 (re.stp st) q1 I1 pos) ?_
  rintro ws s2 ⟨zs, dzs, m2, U, st2, sa2, rdz, rz, I2, q2⟩
  refine ⟨I2.kIn, ?_⟩
  rw [hks]
  split at q2
  · rename_i hl
    exact run_mkK F hr I2 sa2 (rds.stp st2) rdz rv rz hl.1 hl.2 q2
  · exact q2.elim
theorem pd_makeK0 {ks : List Str} {kws : List Keyword} {tk : DA} (F : KTK X.prog X.w X.K X.mg X.base k x 0 ks C G) (hr : Room (k + 1) X.A) (hkw : PDK X kws tk)
    (hks : (backToKw pos (keywordEach kws X.env)).filterMap (·.1) = ks := by rfl) (hall : (backToKw pos (keywordEach kws X.env)).all (·.1.isSome) = true := by rfl)
    (hg : Gl X x := by rfl) (hdb : (x == ("__debug__" : Str)) = false := by decide)
    (hpl : ((backTo pos (starEach [] X.env)).any (·.1) || (backToKw pos (keywordEach kws X.env)).any (·.1.isNone)) = false := by rfl) :
    PDE X (.Call (.Name x p) [] kws pos) (dMakeK C G 0 ks.length dNil tk) := by
  intro S r m σ Q sa re q pins s I
  refine wpAny_Call_Name_kw (ld_glob I hg F.mgx ?_ hdb)
  obtain ⟨_, _, _, _, _, _, M, _⟩ := F.ex
  refine PySem.W.callWith_KW0 (first := []) (h₀ := X.base) I.ok.mod.kin M.kp hall (thn (hkw.run sa re (f := fun zs m3 => if ([] : List D).length = 0 ∧ zs.length = ks.length then _ else .stuck) q I pos) ?_) hpl
  rintro ws s2 ⟨zs, dzs, m2, U, st2, sa2, rdz, rz, I2, q2⟩
  refine ⟨I2.kIn, ?_⟩
  rw [hks]
  split at q2
  · rename_i hl
    exact run_mkK (us := []) (vs := []) (das := []) F hr I2 sa2 .nil rdz .nil rz rfl hl.2 q2
  · exact q2.elim
/-! ### min and max of a list of ints -/
theorem foldl_min_le : ∀ (xs : List Int) (a : Int), xs.foldl min a ≤ a ∧ (∀ y ∈ xs, xs.foldl min a ≤ y) ∧ (xs.foldl min a = a ∨ xs.foldl min a ∈ xs)
  | [], a => ⟨Int.le_refl _, fun _ h => (nomatch h), .inl rfl⟩
  | x :: xs, a => by
    obtain ⟨h1, h2, h3⟩ := foldl_min_le xs (min a x)
    refine ⟨by simp only [List.foldl_cons]; omega, fun y hy => ?_, ?_⟩
    · simp only [List.foldl_cons]
      rcases List.mem_cons.mp hy with e | e
      · subst e; omega
      · exact h2 y e
    · simp only [List.foldl_cons]
      rcases h3 with h3 | h3
      · rw [h3]
        by_cases z : a ≤ x
        · exact .inl (by omega)
        · exact .inr (by rw [show min a x = x by omega]; exact List.mem_cons_self)
      · exact .inr (List.mem_cons_of_mem _ h3)
theorem foldl_max_ge : ∀ (xs : List Int) (a : Int), a ≤ xs.foldl max a ∧ (∀ y ∈ xs, y ≤ xs.foldl max a) ∧ (xs.foldl max a = a ∨ xs.foldl max a ∈ xs)
  | [], a => ⟨Int.le_refl _, fun _ h => (nomatch h), .inl rfl⟩
  | x :: xs, a => by
    obtain ⟨h1, h2, h3⟩ := foldl_max_ge xs (max a x)
    refine ⟨by simp only [List.foldl_cons]; omega, fun y hy => ?_, ?_⟩
    · simp only [List.foldl_cons]
      rcases List.mem_cons.mp hy with e | e
      · subst e; omega
      · exact h2 y e
    · simp only [List.foldl_cons]
      rcases h3 with h3 | h3
      · rw [h3]
        by_cases z : x ≤ a
        · exact .inl (by omega)
        · exact .inr (by rw [show max a x = x by omega]; exact List.mem_cons_self)
      · exact .inr (List.mem_cons_of_mem _ h3)
theorem minI_ok : ∀ {ns : List Int}, 0 < ns.length → minI ns ∈ ns ∧ ∀ y ∈ ns, minI ns ≤ y
  | x :: xs, _ => by
    obtain ⟨h1, h2, h3⟩ := foldl_min_le xs x
    refine ⟨?_, fun y hy => ?_⟩
    · rcases h3 with h3 | h3
      · exact List.mem_cons.mpr (.inl h3)
      · exact List.mem_cons_of_mem _ h3
    · rcases List.mem_cons.mp hy with e | e
      · subst e; exact h1
      · exact h2 y e
theorem maxI_ok : ∀ {ns : List Int}, 0 < ns.length → maxI ns ∈ ns ∧ ∀ y ∈ ns, y ≤ maxI ns
  | x :: xs, _ => by
    obtain ⟨h1, h2, h3⟩ := foldl_max_ge xs x
    refine ⟨?_, fun y hy => ?_⟩
    · rcases h3 with h3 | h3
      · exact List.mem_cons.mpr (.inl h3)
      · exact List.mem_cons_of_mem _ h3
    · rcases List.mem_cons.mp hy with e | e
      · subst e; exact h1
      · exact h2 y e
def gMinL : DFn := fun ds m => match ds with
  | [d] => match (seqL m d).bind toIs with
    | some (n :: ns) => .ok (.int (minI (n :: ns))) m
    | _ => .stuck
  | _ => .stuck
def gMaxL : DFn := fun ds m => match ds with
  | [d] => match (seqL m d).bind toIs with
    | some (n :: ns) => .ok (.int (maxI (n :: ns))) m
    | _ => .stuck
  | _ => .stuck
@[simp] theorem gMinL_ap (d : D) (m : Mu) : gMinL [d] m = match (seqL m d).bind toIs with
    | some (n :: ns) => .ok (.int (minI (n :: ns))) m
    | _ => .stuck := rfl
@[simp] theorem gMaxL_ap (d : D) (m : Mu) : gMaxL [d] m = match (seqL m d).bind toIs with
    | some (n :: ns) => .ok (.int (maxI (n :: ns))) m
    | _ => .stuck := rfl
theorem oc_minL (hc : X.calm = true) : OC X (.builtin "min") gMinL := by
  refine oc_of (cr_min hc) fun S m ds xs Q W sa rs p => ?_
  unfold gMinL at p
  split at p
  · rename_i d
    cases q : seqL m d with
    | none => rw [q] at p; exact (show False from p).elim
    | some es =>
      rw [q] at p
      cases q2 : toIs es with
      | none => rw [show (some es).bind toIs = toIs es from rfl, q2] at p; exact (show False from p).elim
      | some bs =>
        rw [show (some es).bind toIs = toIs es from rfl, q2] at p
        obtain ⟨v, rfl, r⟩ := reps1 rs
        obtain ⟨a, ys, rfl, h1, h2⟩ := seqL_ok sa r q
        have := toIs_ok h2 q2
        subst this
        cases bs with
        | nil => exact (show False from p).elim
        | cons n ns =>
          have hl : 0 < (n :: ns).length := Nat.succ_pos _
          refine ⟨a, n :: ns, rfl, h1, hl, fun m' hm hle => ?_⟩
          obtain ⟨k1, k2⟩ := minI_ok hl
          have : m' = minI (n :: ns) := by have := hle _ k1; have := k2 _ hm; omega
          subst this
          exact Post.ok p (Stp.refl S) sa (.int _)
  · exact p.elim
theorem oc_maxL (hc : X.calm = true) : OC X (.builtin "max") gMaxL := by
  refine oc_of (cr_max hc) fun S m ds xs Q W sa rs p => ?_
  unfold gMaxL at p
  split at p
  · rename_i d
    cases q : seqL m d with
    | none => rw [q] at p; exact (show False from p).elim
    | some es =>
      rw [q] at p
      cases q2 : toIs es with
      | none => rw [show (some es).bind toIs = toIs es from rfl, q2] at p; exact (show False from p).elim
      | some bs =>
        rw [show (some es).bind toIs = toIs es from rfl, q2] at p
        obtain ⟨v, rfl, r⟩ := reps1 rs
        obtain ⟨a, ys, rfl, h1, h2⟩ := seqL_ok sa r q
        have := toIs_ok h2 q2
        subst this
        cases bs with
        | nil => exact (show False from p).elim
        | cons n ns =>
          have hl : 0 < (n :: ns).length := Nat.succ_pos _
          refine ⟨a, n :: ns, rfl, h1, hl, fun m' hm hle => ?_⟩
          obtain ⟨k1, k2⟩ := maxI_ok hl
          have : m' = maxI (n :: ns) := by have := hle _ k1; have := k2 _ hm; omega
          subst this
          exact Post.ok p (Stp.refl S) sa (.int _)
  · exact p.elim
end
end DL

namespace DL
open PySem PySem.Spec PyProof.Rows L2
variable [LamTab]
section
variable {X : Cx} {a b e o tg : Expr} {es : List Expr} {ta tb to te : DE} {t : DA} {pos p apos : Pos} {k : Nat}
/-! ### texts -/
def toSs : List D → Option (List Str)
  | [] => some []
  | .str b :: ds => match toSs ds with
    | some bs => some (b :: bs)
    | none => none
  | _ => none
theorem toSs_ok {K : PySem.W.Frag} {i : List Addr} {F : Hp} : ∀ {ds : List D} {xs : List V} {bs : List Str}, Reps K i F ds xs → toSs ds = some bs → xs = bs.map V.str
  | [], _, _, r, h => by cases r; cases h; rfl
  | d :: ds, _, _, r, h => by
    cases r with
    | cons h1 h2 =>
      cases h1 with
      | str b =>
        unfold toSs at h
        cases q : toSs ds with
        | none => rw [q] at h; cases h
        | some bs => rw [q] at h; cases h; rw [toSs_ok h2 q]; rfl
      | _ => simp [toSs] at h
def dJoin (to te : DE) : DE := fun e m => (to e m).bind fun o m1 => match o with
  | .str a => (te e m1).bind fun d m2 => match (seqA m2 d).bind toSs with
    | some ys => if (ys.map (·.length)).sum + ys.length * a.length ≤ 16777216 then .ok (.str (Txt.join a ys)) m2 else .stuck
    | none => .stuck
  | _ => .stuck
@[simp ↓] theorem dJoin_ap (to te : DE) (e : En) (m : Mu) : dJoin to te e m = (to e m).bind fun o m1 => match o with
  | .str a => (te e m1).bind fun d m2 => match (seqA m2 d).bind toSs with
    | some ys => if (ys.map (·.length)).sum + ys.length * a.length ≤ 16777216 then .ok (.str (Txt.join a ys)) m2 else .stuck
    | none => .stuck
  | _ => .stuck := rfl
theorem pd_join (ho : PDE X o to) (he : PDE X e te) (hs : starEach [e] X.env = [(false, eval e X.env)] := by rfl) (hbase : attributeBase o "join" X.env (eval o X.env) = eval o X.env := by rfl) (hline : (apos.endLine == pos.line) = true := by rfl) :
    PDE X (.Call (.Attribute o "join" apos) [e] [] pos) (dJoin to te) := by
  refine pd_of (pe_join (mxE X o) (mxE X e) hs hbase hline) fun S r m σ Q sa re p => ?_
  refine ho S r m σ _ sa re (Post.bindI p fun od m1 v T st sa1 rd q => ?_)
  split at q
  · rename_i a
    cases rd
    refine ⟨⟨a, rfl⟩, he T r m1 σ _ sa1 (re.stp st) (Post.bindI q fun d m2 w U st2 sa2 rw q2 => ?_)⟩
    split at q2
    · rename_i ys e1
      split at q2
      · rename_i hl
        cases qs : seqA m2 d with
        | none => rw [qs] at e1; cases e1
        | some ds =>
          rw [qs] at e1
          have e1 : toSs ds = some ys := e1
          have fin := Post.ok q2 (Stp.refl U) sa2 (.str (Txt.join a ys))
          unfold seqA at qs
          cases q3 : seqL m2 d with
          | some zs =>
            rw [q3] at qs
            cases qs
            obtain ⟨pp, xs, rfl, h1, h2⟩ := seqL_ok sa2 rw q3
            have := toSs_ok h2 e1
            subst this
            exact ⟨a, pp, ys, rfl, rfl, .inl h1, hl, fin⟩
          | none =>
            rw [q3] at qs
            obtain ⟨pp, xs, rfl, h1, h2⟩ := seqT_ok sa2 rw qs
            have := toSs_ok h2 e1
            subst this
            exact ⟨a, pp, ys, rfl, rfl, .inr h1, hl, fin⟩
      · exact q2.elim
    · exact q2.elim
  · exact q.elim
/-- a text's signs -/
def signs (x : Str) : List D := x.cps.toList.map fun c => .str ⟨#[c]⟩
def dItStr (t : DE) : DA := fun e m => (t e m).bind fun d m1 => match d with
  | .str x => .ok (signs x) m1
  | _ => .stuck
@[simp ↓] theorem dItStr_ap (t : DE) (e : En) (m : Mu) : dItStr t e m = (t e m).bind fun d m1 => match d with
  | .str x => .ok (signs x) m1
  | _ => .stuck := rfl
theorem pdi_str (ha : PDE X a ta) : PDI X tg a (dItStr ta) := by
  refine pdi_of (pi_str (mxE X a)) fun S r m σ R sa re p => ?_
  refine ha S r m σ _ sa re (PostI.bindI p fun d m1 v T st sa1 rd q => ?_)
  split at q
  · rename_i x
    cases rd
    refine ⟨x, rfl, q _ T (Stp.refl T) sa1 fun U m' i st' sa' => ⟨fun d hd => ?_, fun hl => ?_⟩⟩
    · unfold signs at hd
      rw [List.getElem?_map] at hd
      cases h : x.cps.toList[i]? with
      | none => rw [h] at hd; cases hd
      | some c =>
        rw [h] at hd
        cases hd
        have hi : i < x.cps.size := by simpa using (List.getElem?_eq_some_iff.mp h).1
        refine ⟨hi, fun y H' hy => ⟨U, hy.1.symm, Stp.refl U, sa', ?_⟩⟩
        obtain ⟨c', hc, rfl⟩ := hy.2
        have : c' = c := by
          rw [← Array.getElem?_toList] at hc
          rw [h] at hc
          exact (Option.some.inj hc).symm
        subst this
        exact .str _
    · show x.cps.size ≤ i
      unfold signs at hl
      simpa using hl
  · exact q.elim
/-- a slice of a text -/
def dSlStr (t : DE) (lo hi : DO) : DE := fun e m => (t e m).bind fun d m1 => (lo e m1).bind fun l m2 => (hi e m2).bind fun h m3 => match d with
  | .str z => if z.length ≤ sizeLine then .ok (.str (cutS z l h)) m3 else .stuck
  | _ => .stuck
@[simp ↓] theorem dSlStr_ap (t : DE) (lo hi : DO) (e : En) (m : Mu) : dSlStr t lo hi e m = (t e m).bind fun d m1 => (lo e m1).bind fun l m2 => (hi e m2).bind fun h m3 => match d with
  | .str z => if z.length ≤ sizeLine then .ok (.str (cutS z l h)) m3 else .stuck
  | _ => .stuck := rfl
theorem pd_slStr {lo hi : Option Expr} {tl th : DO} {p2 : Pos} (ha : PDE X a ta) (hl : PDO X lo tl) (hh : PDO X hi th) : PDE X (.Subscript a (.Slice lo hi none p2) pos) (dSlStr ta tl th) := by
  obtain ⟨ul, hl1, hl2⟩ := hl
  obtain ⟨uh, hh1, hh2⟩ := hh
  refine pd_of (pe_slice sl_str (mxE X a) hl1 hh1) fun S r m σ Q sa re p => ?_
  refine ha S r m σ _ sa re (Post.bindI p fun d m1 v T st sa1 rd q => ?_)
  refine hl2 T r m1 σ _ sa1 (re.stp st) (Post.bindI q fun l m2 l' U st2 sa2 rl q2 => ?_)
  have rl : l = l' := rl
  subst rl
  refine hh2 U r m2 σ _ sa2 ((re.stp st).stp st2) (Post.bindI q2 fun h m3 h' Y st3 sa3 rh q3 => ?_)
  have rh : h = h' := rh
  subst rh
  split at q3
  · rename_i z
    cases rd
    split at q3
    · rename_i hz
      exact ⟨z, rfl, hz, Post.ok q3 (Stp.refl Y) sa3 (.str _)⟩
    · exact q3.elim
  · exact q3.elim
/-- a slice of a tuple -/
def dSlT (t : DE) (lo hi : DO) : DE := fun e m => (t e m).bind fun d m1 => (lo e m1).bind fun l m2 => (hi e m2).bind fun h m3 => match d with
  | .tup ds => .ok (.tup (cutD ds l h)) m3
  | _ => .stuck
@[simp ↓] theorem dSlT_ap (t : DE) (lo hi : DO) (e : En) (m : Mu) : dSlT t lo hi e m = (t e m).bind fun d m1 => (lo e m1).bind fun l m2 => (hi e m2).bind fun h m3 => match d with
  | .tup ds => .ok (.tup (cutD ds l h)) m3
  | _ => .stuck := rfl
theorem cutV_whole {xs : List V} {lo hi : Option Int} (h : HT.sIx xs.length 0 lo = 0 ∧ HT.sIx xs.length xs.length hi = xs.length) : cutV xs lo hi = xs := by
  unfold cutV
  rw [h.1, h.2]; simp
theorem pd_slT {lo hi : Option Expr} {tl th : DO} {p2 : Pos} (ha : PDE X a ta) (hl : PDO X lo tl) (hh : PDO X hi th) : PDE X (.Subscript a (.Slice lo hi none p2) pos) (dSlT ta tl th) := by
  obtain ⟨ul, hl1, hl2⟩ := hl
  obtain ⟨uh, hh1, hh2⟩ := hh
  refine pd_of (pe_slice sl_tupA (mxE X a) hl1 hh1) fun S r m σ Q sa re p => ?_
  refine ha S r m σ _ sa re (Post.bindI p fun d m1 v T st sa1 rd q => ?_)
  refine hl2 T r m1 σ _ sa1 (re.stp st) (Post.bindI q fun l m2 l' U st2 sa2 rl q2 => ?_)
  have rl : l = l' := rl
  subst rl
  refine hh2 U r m2 σ _ sa2 ((re.stp st).stp st2) (Post.bindI q2 fun h m3 h' Y st3 sa3 rh q3 => ?_)
  have rh : h = h' := rh
  subst rh
  split at q3
  · rename_i ds
    have rd3 := (rd.stp st2).stp st3
    cases rd3 with
    | @tup _ a' xs h1 h2 =>
      have rc := cut_reps h2 l h
      refine ⟨a', xs, rfl, SqT.ext' h1 sa3.sub, fun hw => ?_, fun hw n hn => ?_⟩
      · rw [cutV_whole hw] at rc
        exact Post.ok q3 (Stp.refl Y) sa3 (.tup h1 rc)
      · have st4 := Stp.new sa3 (o := .tup (cutV xs l h)) hn
        exact q3 (.ref n) (Y.new n (.tup (cutV xs l h))) st4 (sa3.new hn) (.tup (.inl (.inl upd_same)) (rc.stp st4))
  · exact q3.elim
end
end DL

namespace GQ
open PySem PySem.SeqAt
open AutoSeq1 (wpAny_loadPart')
open MeetsSeq MeetsSeq2 MeetsSeq3 SeqRoads2
section
variable {prog : Program} {w : World} {A : Around} {R : Result → Shared → Prop}
/-- two lists of N items each at s -/
def TwoL (l b : Addr) (N : Nat) (s : Shared) : Prop := ∃ (items items2 : Array Value) (n n2 : Nat) (dd dd2 : Option Addr) (sl sl2 : Array (Option Value)), s.heap.get? l = some { cls := .type "list", dict := dd, data := .seq items n, slots := sl } ∧ s.heap.get? b = some { cls := .type "list", dict := dd2, data := .seq items2 n2, slots := sl2 } ∧ items.size = N ∧ items2.size = N
/-- at each turn: equal and on, or different and Fl -/
def ListB (prog : Program) (w : World) (A : Around) (E : Value → Shared → Prop) (l b : Addr) (N : Nat) (I : Nat → Shared → Prop) (Fl : Shared → Prop) : Prop :=
  ∀ i s, I i s → ∃ (items items2 : Array Value) (n n2 : Nat) (dd dd2 : Option Addr) (sl sl2 : Array (Option Value)), s.heap.get? l = some { cls := .type "list", dict := dd, data := .seq items n, slots := sl } ∧ s.heap.get? b = some { cls := .type "list", dict := dd2, data := .seq items2 n2, slots := sl2 } ∧ items.size = N ∧ items2.size = N ∧
    ∀ (h1 : i < items.size) (h2 : i < items2.size), wpAny (model prog w) A.in1 (eqBool items[i] items2[i]) (fun r s' => if r then I (i + 1) s' else Fl s' ∧ TwoL l b N s') E s

theorem eq_loopE (l b : Addr) (N : Nat) (I : Nat → Shared → Prop) (Fl : Shared → Prop) (hl : ListB prog w A (fun e s' => R (.error e) s') l b N I Fl)
    (fin : ∀ s, I N s → R (.ok (.ret (.bool true))) s) (fal : ∀ s, Fl s → R (.ok (.ret (.bool false))) s) (k : Nat) :
    ∀ i : Nat, N - i = k → i ≤ N → ∀ s, I i s →
      wpAny (model prog w) A.in1 (Builtin.«list.__eq__.loop» ⟨[.ref l, .ref b, rawInt i, rawInt 2], []⟩) (FinOf prog w A R) (fun e s' => R (.error e) s') s := by
  induction k with
  | zero =>
    intro i hk hi s h
    obtain ⟨items, items2, n, n2, dd, dd2, sl, sl2, hl1, hb1, hs1, hs2, _⟩ := hl _ _ h
    have hi' : i = N := by omega
    have hR := fin s (hi' ▸ h)
    obtain ⟨hp, g, d, tk, os⟩ := s
    wp_walk using wpAny_loadPart' hl1, wpAny_loadPart' hb1
    have hi1 : items[((i : Nat) : Int).toNat]? = none := by simp; omega
    have hi2 : items2[((i : Nat) : Int).toNat]? = none := by simp; omega
    rw [hi1, hi2]
    wp_walk using wpAny_loadPart' hl1, wpAny_loadPart' hb1
    show R (.ok (.ret (.bool (items.size == items2.size)))) _
    rw [hs1, hs2]
    simpa using hR
  | succ k ih =>
    intro i hk hi s h
    obtain ⟨items, items2, n, n2, dd, dd2, sl, sl2, hl1, hb1, hs1, hs2, turn⟩ := hl _ _ h
    have hlt : i < items.size := by omega
    have hlt2 : i < items2.size := by omega
    have ht := turn hlt hlt2
    obtain ⟨hp, g, d, tk, os⟩ := s
    wp_walk using wpAny_loadPart' hl1, wpAny_loadPart' hb1
    have hi1 : items[((i : Nat) : Int).toNat]? = some items[i] := by simp [hlt]
    have hi2 : items2[((i : Nat) : Int).toNat]? = some items2[i] := by simp [hlt2]
    have hc : ((i : Int) + 1) = ((i + 1 : Nat) : Int) := by omega
    rw [hi1, hi2]
    refine wpAny_bind (wpAny_mono ht (fun r s2 h2 => ?_) fun _ _ x => x)
    cases r with
    | true =>
      have h2 : I (i + 1) s2 := h2
      have hrec := ih (i + 1) (by omega) (by omega) s2 h2
      obtain ⟨hp2, g2, d2, tk2, os2⟩ := s2
      wp_walk
      rw [hc]
      exact ⟨plainId_quiet plain_eq_loop _, codeAny_builtin entry_eq_loop (by
        rw [Around.under_plainId plain_eq_loop _]
        exact hrec)⟩
    | false =>
      obtain ⟨h2, it3, it4, n3, n4, dd3, dd4, sl3, sl4, hl3, hb3, hs3, hs4⟩ := (h2 : Fl s2 ∧ _)
      have hR := fal s2 h2
      have hlt3 : i < it3.size := by omega
      have hlt4 : i < it4.size := by omega
      have hi3 : it3[((i : Nat) : Int).toNat]? = some it3[i] := by simp [hlt3]
      have hi4 : it4[((i : Nat) : Int).toNat]? = some it4[i] := by simp [hlt4]
      obtain ⟨hp2, g2, d2, tk2, os2⟩ := s2
      wp_walk using wpAny_loadPart' hl3, wpAny_loadPart' hb3
      rw [hi3, hi4]
      wp_walk
      simpa using hR

theorem list_eqB (l b : Addr) (N : Nat) (I : Nat → Shared → Prop) (Fl : Shared → Prop) (hl : ListB prog w A (fun e s' => R (.error e) s') l b N I Fl)
    (fin : ∀ s, I N s → R (.ok (.ret (.bool true))) s) (fal : ∀ s, Fl s → R (.ok (.ret (.bool false))) s) {s : Shared} (h : I 0 s) :
    wpAny (model prog w) A.in1 (Builtin.«list.__eq__» ⟨[.ref l, .ref b], []⟩) (FinOf prog w A R) (fun e s' => R (.error e) s') s := by
  obtain ⟨items, items2, n, n2, dd, dd2, sl, sl2, hl1, hb1, hs1, hs2, _⟩ := hl _ _ h
  have hrec := eq_loopE (A := A) (R := R) l b N I Fl hl fin fal _ 0 rfl (Nat.zero_le _) s h
  obtain ⟨hp, g, d, tk, os⟩ := s
  have f3 := AutoSeq1.sub_list_list
  have hne : ¬ (items.size != items2.size) = true := by simp [hs1, hs2]
  wp_walk using wpAny_loadPart' hl1, wpAny_loadPart' hb1
  exact ⟨plainId_quiet plain_eq_loop _, codeAny_builtin entry_eq_loop (by
    rw [Around.under_plainId plain_eq_loop _]
    exact hrec)⟩
theorem list_eqL (l b : Addr) (items items2 : Array Value) (n n2 : Nat) (dd dd2 : Option Addr) (sl sl2 : Array (Option Value)) (hsz : items.size ≠ items2.size) {s : Shared} (hl1 : s.heap.get? l = some { cls := .type "list", dict := dd, data := .seq items n, slots := sl }) (hb1 : s.heap.get? b = some { cls := .type "list", dict := dd2, data := .seq items2 n2, slots := sl2 })
    (fal : R (.ok (.ret (.bool false))) s) :
    wpAny (model prog w) A.in1 (Builtin.«list.__eq__» ⟨[.ref l, .ref b], []⟩) (FinOf prog w A R) (fun e s' => R (.error e) s') s := by
  obtain ⟨hp, g, d, tk, os⟩ := s
  have f3 := AutoSeq1.sub_list_list
  have hne : (items.size != items2.size) = true := by simp [hsz]
  wp_walk using wpAny_loadPart' hl1, wpAny_loadPart' hb1
  exact fal

theorem tuple_eqB (l b : Addr) (items items2 : Array Value) (n n2 : Nat) (dd dd2 : Option Addr) (sl sl2 : Array (Option Value)) (I : Nat → Shared → Prop) (Fl : Shared → Prop)
    (turn : ∀ i (h1 : i < items.size) (h2 : i < items2.size) s, I i s → wpAny (model prog w) A.in1 (eqBool items[i] items2[i]) (fun r s' => if r then I (i + 1) s' else Fl s') (fun e s' => R (.error e) s') s)
    (fin : ∀ s, I (min items.size items2.size) s → R (.ok (.ret (.bool (items.size == items2.size)))) s) (fal : ∀ s, Fl s → R (.ok (.ret (.bool false))) s) {s : Shared} (hl1 : s.heap.get? l = some { cls := .type "tuple", dict := dd, data := .seq items n, slots := sl }) (hb1 : s.heap.get? b = some { cls := .type "tuple", dict := dd2, data := .seq items2 n2, slots := sl2 }) (h : I 0 s) :
    wpAny (model prog w) A.in1 (Builtin.«tuple.__eq__» ⟨[.ref l, .ref b], []⟩) (FinOf prog w A R) (fun e s' => R (.error e) s') s := by
  have f2 := AutoSeq1.sub_tuple_tuple
  have hZ : (items.toList.zip items2.toList).length = min items.size items2.size := by simp
  have h0 := h
  obtain ⟨hp, g, d, tk, os⟩ := s
  wp_walk using wpAny_loadPart' hl1, wpAny_loadPart' hb1, wpAny_forIn_list _ (fun rest b s' => (b.1 = none ∧ ∃ i, rest = (items.toList.zip items2.toList).drop i ∧ i ≤ min items.size items2.size ∧ I i s') ∨ (rest = [] ∧ b.1 = some (.done (.ret (.bool false))) ∧ Fl s')) _
  case turn =>
    rintro ⟨y, x⟩ rest b s' hyp
    rcases hyp with ⟨hb', i, hz, hi, hI⟩ | ⟨hz, _, _⟩
    · have hlt : i < (items.toList.zip items2.toList).length := by
        rcases Nat.lt_or_ge i (items.toList.zip items2.toList).length with h' | h'
        · exact h'
        · rw [List.drop_of_length_le h'] at hz; cases hz
      have h1 : i < items.size := by omega
      have h2 : i < items2.size := by omega
      rw [List.drop_eq_getElem_cons hlt] at hz
      injection hz with hyx hrest
      have hy : y = items[i] := by have := congrArg Prod.fst hyx; simpa using this
      have hx : x = items2[i] := by have := congrArg Prod.snd hyx; simpa using this
      subst hy hx
      refine wpAny_bind (wpAny_mono (turn i h1 h2 s' hI) (fun r s2 q2 => ?_) fun _ _ x => x)
      cases r with
      | true =>
        have q2 : I (i + 1) s2 := q2
        wp_walk
        exact .inl ⟨rfl, i + 1, hrest, by omega, q2⟩
      | false =>
        have q2 : Fl s2 := q2
        wp_walk
        exact fal s2 q2
    · cases hz
  case fin =>
    rintro ⟨b1, b2⟩ s' hyp
    rcases hyp with ⟨hb', i, hz, hi, hI⟩ | ⟨_, hb', hF⟩
    · simp only at hb'
      subst hb'
      have hge : min items.size items2.size ≤ i := by
        rcases Nat.lt_or_ge i (items.toList.zip items2.toList).length with h' | h'
        · rw [List.drop_eq_getElem_cons h'] at hz; cases hz
        · omega
      have hi' : i = min items.size items2.size := by omega
      have hR := fin s' (hi' ▸ hI)
      wp_walk
      simpa [Builtin.Tuple.tupleCompareSizes] using hR
    · simp only at hb'
      subst hb'
      have hR := fal s' hF
      wp_walk
      exact hR
  case h =>
    exact .inl ⟨rfl, 0, rfl, Nat.zero_le _, h0⟩

theorem eq_loopN (l b : Addr) (N : Nat) (I : Nat → Shared → Prop) (Fl : Shared → Prop) (hl : ListB prog w A (fun e s' => R (.error e) s') l b N I Fl)
    (fin : ∀ s, I N s → R (.ok (.ret (.bool false))) s) (fal : ∀ s, Fl s → R (.ok (.ret (.bool true))) s) (k : Nat) :
    ∀ i : Nat, N - i = k → i ≤ N → ∀ s, I i s →
      wpAny (model prog w) A.in1 (Builtin.«list.__eq__.loop» ⟨[.ref l, .ref b, rawInt i, rawInt 3], []⟩) (FinOf prog w A R) (fun e s' => R (.error e) s') s := by
  induction k with
  | zero =>
    intro i hk hi s h
    obtain ⟨items, items2, n, n2, dd, dd2, sl, sl2, hl1, hb1, hs1, hs2, _⟩ := hl _ _ h
    have hi' : i = N := by omega
    have hR := fin s (hi' ▸ h)
    obtain ⟨hp, g, d, tk, os⟩ := s
    wp_walk using wpAny_loadPart' hl1, wpAny_loadPart' hb1
    have hi1 : items[((i : Nat) : Int).toNat]? = none := by simp; omega
    have hi2 : items2[((i : Nat) : Int).toNat]? = none := by simp; omega
    rw [hi1, hi2]
    wp_walk using wpAny_loadPart' hl1, wpAny_loadPart' hb1
    show R (.ok (.ret (.bool (items.size != items2.size)))) _
    rw [hs1, hs2]
    simpa using hR
  | succ k ih =>
    intro i hk hi s h
    obtain ⟨items, items2, n, n2, dd, dd2, sl, sl2, hl1, hb1, hs1, hs2, turn⟩ := hl _ _ h
    have hlt : i < items.size := by omega
    have hlt2 : i < items2.size := by omega
    have ht := turn hlt hlt2
    obtain ⟨hp, g, d, tk, os⟩ := s
    wp_walk using wpAny_loadPart' hl1, wpAny_loadPart' hb1
    have hi1 : items[((i : Nat) : Int).toNat]? = some items[i] := by simp [hlt]
    have hi2 : items2[((i : Nat) : Int).toNat]? = some items2[i] := by simp [hlt2]
    have hc : ((i : Int) + 1) = ((i + 1 : Nat) : Int) := by omega
    rw [hi1, hi2]
    refine wpAny_bind (wpAny_mono ht (fun r s2 h2 => ?_) fun _ _ x => x)
    cases r with
    | true =>
      have h2 : I (i + 1) s2 := h2
      have hrec := ih (i + 1) (by omega) (by omega) s2 h2
      obtain ⟨hp2, g2, d2, tk2, os2⟩ := s2
      wp_walk
      rw [hc]
      exact ⟨plainId_quiet plain_eq_loop _, codeAny_builtin entry_eq_loop (by
        rw [Around.under_plainId plain_eq_loop _]
        exact hrec)⟩
    | false =>
      obtain ⟨h2, it3, it4, n3, n4, dd3, dd4, sl3, sl4, hl3, hb3, hs3, hs4⟩ := (h2 : Fl s2 ∧ _)
      have hR := fal s2 h2
      have hlt3 : i < it3.size := by omega
      have hlt4 : i < it4.size := by omega
      have hi3 : it3[((i : Nat) : Int).toNat]? = some it3[i] := by simp [hlt3]
      have hi4 : it4[((i : Nat) : Int).toNat]? = some it4[i] := by simp [hlt4]
      obtain ⟨hp2, g2, d2, tk2, os2⟩ := s2
      wp_walk using wpAny_loadPart' hl3, wpAny_loadPart' hb3
      rw [hi3, hi4]
      wp_walk
      simpa using hR

theorem list_neB (l b : Addr) (N : Nat) (I : Nat → Shared → Prop) (Fl : Shared → Prop) (hl : ListB prog w A (fun e s' => R (.error e) s') l b N I Fl)
    (fin : ∀ s, I N s → R (.ok (.ret (.bool false))) s) (fal : ∀ s, Fl s → R (.ok (.ret (.bool true))) s) {s : Shared} (h : I 0 s) :
    wpAny (model prog w) A.in1 (Builtin.«list.__ne__» ⟨[.ref l, .ref b], []⟩) (FinOf prog w A R) (fun e s' => R (.error e) s') s := by
  obtain ⟨items, items2, n, n2, dd, dd2, sl, sl2, hl1, hb1, hs1, hs2, _⟩ := hl _ _ h
  have hrec := eq_loopN (A := A) (R := R) l b N I Fl hl fin fal _ 0 rfl (Nat.zero_le _) s h
  obtain ⟨hp, g, d, tk, os⟩ := s
  have f3 := AutoSeq1.sub_list_list
  have hne : ¬ (items.size != items2.size) = true := by simp [hs1, hs2]
  wp_walk using wpAny_loadPart' hl1, wpAny_loadPart' hb1
  exact ⟨plainId_quiet plain_eq_loop _, codeAny_builtin entry_eq_loop (by
    rw [Around.under_plainId plain_eq_loop _]
    exact hrec)⟩
theorem list_neL (l b : Addr) (items items2 : Array Value) (n n2 : Nat) (dd dd2 : Option Addr) (sl sl2 : Array (Option Value)) (hsz : items.size ≠ items2.size) {s : Shared} (hl1 : s.heap.get? l = some { cls := .type "list", dict := dd, data := .seq items n, slots := sl }) (hb1 : s.heap.get? b = some { cls := .type "list", dict := dd2, data := .seq items2 n2, slots := sl2 })
    (fal : R (.ok (.ret (.bool true))) s) :
    wpAny (model prog w) A.in1 (Builtin.«list.__ne__» ⟨[.ref l, .ref b], []⟩) (FinOf prog w A R) (fun e s' => R (.error e) s') s := by
  obtain ⟨hp, g, d, tk, os⟩ := s
  have f3 := AutoSeq1.sub_list_list
  have hne : (items.size != items2.size) = true := by simp [hsz]
  wp_walk using wpAny_loadPart' hl1, wpAny_loadPart' hb1
  exact fal

theorem tuple_neB (l b : Addr) (items items2 : Array Value) (n n2 : Nat) (dd dd2 : Option Addr) (sl sl2 : Array (Option Value)) (I : Nat → Shared → Prop) (Fl : Shared → Prop)
    (turn : ∀ i (h1 : i < items.size) (h2 : i < items2.size) s, I i s → wpAny (model prog w) A.in1 (eqBool items[i] items2[i]) (fun r s' => if r then I (i + 1) s' else Fl s') (fun e s' => R (.error e) s') s)
    (fin : ∀ s, I (min items.size items2.size) s → R (.ok (.ret (.bool (items.size != items2.size)))) s) (fal : ∀ s, Fl s → R (.ok (.ret (.bool true))) s) {s : Shared} (hl1 : s.heap.get? l = some { cls := .type "tuple", dict := dd, data := .seq items n, slots := sl }) (hb1 : s.heap.get? b = some { cls := .type "tuple", dict := dd2, data := .seq items2 n2, slots := sl2 }) (h : I 0 s) :
    wpAny (model prog w) A.in1 (Builtin.«tuple.__ne__» ⟨[.ref l, .ref b], []⟩) (FinOf prog w A R) (fun e s' => R (.error e) s') s := by
  have f2 := AutoSeq1.sub_tuple_tuple
  have hZ : (items.toList.zip items2.toList).length = min items.size items2.size := by simp
  have h0 := h
  obtain ⟨hp, g, d, tk, os⟩ := s
  wp_walk using wpAny_loadPart' hl1, wpAny_loadPart' hb1, wpAny_forIn_list _ (fun rest b s' => (b.1 = none ∧ ∃ i, rest = (items.toList.zip items2.toList).drop i ∧ i ≤ min items.size items2.size ∧ I i s') ∨ (rest = [] ∧ b.1 = some (.done (.ret (.bool true))) ∧ Fl s')) _
  case turn =>
    rintro ⟨y, x⟩ rest b s' hyp
    rcases hyp with ⟨hb', i, hz, hi, hI⟩ | ⟨hz, _, _⟩
    · have hlt : i < (items.toList.zip items2.toList).length := by
        rcases Nat.lt_or_ge i (items.toList.zip items2.toList).length with h' | h'
        · exact h'
        · rw [List.drop_of_length_le h'] at hz; cases hz
      have h1 : i < items.size := by omega
      have h2 : i < items2.size := by omega
      rw [List.drop_eq_getElem_cons hlt] at hz
      injection hz with hyx hrest
      have hy : y = items[i] := by have := congrArg Prod.fst hyx; simpa using this
      have hx : x = items2[i] := by have := congrArg Prod.snd hyx; simpa using this
      subst hy hx
      refine wpAny_bind (wpAny_mono (turn i h1 h2 s' hI) (fun r s2 q2 => ?_) fun _ _ x => x)
      cases r with
      | true =>
        have q2 : I (i + 1) s2 := q2
        wp_walk
        exact .inl ⟨rfl, i + 1, hrest, by omega, q2⟩
      | false =>
        have q2 : Fl s2 := q2
        wp_walk
        exact fal s2 q2
    · cases hz
  case fin =>
    rintro ⟨b1, b2⟩ s' hyp
    rcases hyp with ⟨hb', i, hz, hi, hI⟩ | ⟨_, hb', hF⟩
    · simp only at hb'
      subst hb'
      have hge : min items.size items2.size ≤ i := by
        rcases Nat.lt_or_ge i (items.toList.zip items2.toList).length with h' | h'
        · rw [List.drop_eq_getElem_cons h'] at hz; cases hz
        · omega
      have hi' : i = min items.size items2.size := by omega
      have hR := fin s' (hi' ▸ hI)
      wp_walk
      simpa [Builtin.Tuple.tupleCompareSizes] using hR
    · simp only at hb'
      subst hb'
      have hR := fal s' hF
      wp_walk
      exact hR
  case h =>
    exact .inl ⟨rfl, 0, rfl, Nat.zero_le _, h0⟩
end
end GQ

namespace GQ
open PySem PySem.SeqAt PySem.Spec PyProof.Rows L2
open MeetsSeq MeetsSeq2 MeetsSeq3 SeqRoads2
section
variable {prog : Program} {w : World} {A : Around} {E : Value → Shared → Prop} {s : Shared}
theorem rc_listB {l b : Addr} {N : Nat} {Q : Value → Shared → Prop} (hu : A.units < cLine) (I : Nat → Shared → Prop) (Fl : Shared → Prop) (hl : ListB prog w A E l b N I Fl)
    (fin : ∀ s, I N s → Q (.bool true) s) (fal : ∀ s, Fl s → Q (.bool false) s) (h : I 0 s) : wpAny (model prog w) A (richCompare .Eq (.ref l) (.ref b)) Q E s := by
  obtain ⟨items, items2, n, n2, dd, dd2, sl, sl2, hl1, hb1, _, _, _⟩ := hl _ _ h
  refine wpAny_richCompare_same_room (op := .Eq) ⟨_, hl1, rfl⟩ ⟨_, hb1, rfl⟩ F.slot_list_eq (call_here F.slot_list_eq ⟨_, hl1, rfl⟩ F.entry_list_eq (F.args_list_eq_2 _ _) ?_) hu
  exact list_eqB (R := wants (fun v s' => v ≠ .notImplemented ∧ Q v s') E) l b N I Fl hl (fun s' q => ⟨(fun x => nomatch x), fin s' q⟩) (fun s' q => ⟨(fun x => nomatch x), fal s' q⟩) h
theorem rc_listNe {l b : Addr} {N : Nat} {Q : Value → Shared → Prop} (hu : A.units < cLine) (I : Nat → Shared → Prop) (Fl : Shared → Prop) (hl : ListB prog w A E l b N I Fl)
    (fin : ∀ s, I N s → Q (.bool false) s) (fal : ∀ s, Fl s → Q (.bool true) s) (h : I 0 s) : wpAny (model prog w) A (richCompare .NotEq (.ref l) (.ref b)) Q E s := by
  obtain ⟨items, items2, n, n2, dd, dd2, sl, sl2, hl1, hb1, _, _, _⟩ := hl _ _ h
  refine wpAny_richCompare_same_room (op := .NotEq) ⟨_, hl1, rfl⟩ ⟨_, hb1, rfl⟩ F.slot_list_ne (call_here F.slot_list_ne ⟨_, hl1, rfl⟩ F.entry_list_ne (F.args_list_ne_2 _ _) ?_) hu
  exact list_neB (R := wants (fun v s' => v ≠ .notImplemented ∧ Q v s') E) l b N I Fl hl (fun s' q => ⟨(fun x => nomatch x), fin s' q⟩) (fun s' q => ⟨(fun x => nomatch x), fal s' q⟩) h
theorem rc_listL {l b : Addr} {items items2 : Array Value} {n n2 : Nat} {dd dd2 : Option Addr} {sl sl2 : Array (Option Value)} {Q : Value → Shared → Prop} (hu : A.units < cLine) (hl1 : s.heap.get? l = some { cls := .type "list", dict := dd, data := .seq items n, slots := sl }) (hb1 : s.heap.get? b = some { cls := .type "list", dict := dd2, data := .seq items2 n2, slots := sl2 })
    (hsz : items.size ≠ items2.size) (h : Q (.bool false) s) : wpAny (model prog w) A (richCompare .Eq (.ref l) (.ref b)) Q E s := by
  refine wpAny_richCompare_same_room (op := .Eq) ⟨_, hl1, rfl⟩ ⟨_, hb1, rfl⟩ F.slot_list_eq (call_here F.slot_list_eq ⟨_, hl1, rfl⟩ F.entry_list_eq (F.args_list_eq_2 _ _) ?_) hu
  exact list_eqL (R := wants (fun v s' => v ≠ .notImplemented ∧ Q v s') E) l b items items2 n n2 dd dd2 sl sl2 hsz hl1 hb1 ⟨(fun x => nomatch x), h⟩
theorem rc_listLNe {l b : Addr} {items items2 : Array Value} {n n2 : Nat} {dd dd2 : Option Addr} {sl sl2 : Array (Option Value)} {Q : Value → Shared → Prop} (hu : A.units < cLine) (hl1 : s.heap.get? l = some { cls := .type "list", dict := dd, data := .seq items n, slots := sl }) (hb1 : s.heap.get? b = some { cls := .type "list", dict := dd2, data := .seq items2 n2, slots := sl2 })
    (hsz : items.size ≠ items2.size) (h : Q (.bool true) s) : wpAny (model prog w) A (richCompare .NotEq (.ref l) (.ref b)) Q E s := by
  refine wpAny_richCompare_same_room (op := .NotEq) ⟨_, hl1, rfl⟩ ⟨_, hb1, rfl⟩ F.slot_list_ne (call_here F.slot_list_ne ⟨_, hl1, rfl⟩ F.entry_list_ne (F.args_list_ne_2 _ _) ?_) hu
  exact list_neL (R := wants (fun v s' => v ≠ .notImplemented ∧ Q v s') E) l b items items2 n n2 dd dd2 sl sl2 hsz hl1 hb1 ⟨(fun x => nomatch x), h⟩
theorem rc_tupB {l b : Addr} {items items2 : Array Value} {Q : Value → Shared → Prop} (hu : A.units < cLine) (I : Nat → Shared → Prop) (Fl : Shared → Prop)
    (hl : s.heap.IsTuple l items) (hb : s.heap.IsTuple b items2)
    (turn : ∀ i (h1 : i < items.size) (h2 : i < items2.size) s, I i s → wpAny (model prog w) A.in1 (eqBool items[i] items2[i]) (fun r s' => if r then I (i + 1) s' else Fl s') E s)
    (fin : ∀ s, I (min items.size items2.size) s → Q (.bool (items.size == items2.size)) s) (fal : ∀ s, Fl s → Q (.bool false) s) (h : I 0 s) : wpAny (model prog w) A (richCompare .Eq (.ref l) (.ref b)) Q E s := by
  obtain ⟨⟨cls, dd, data, sl⟩, ho, hc, n, hd⟩ := id hl
  obtain ⟨⟨cls2, dd2, data2, sl2⟩, ho2, hc2, n2, hd2⟩ := id hb
  simp only at hc hd hc2 hd2
  subst hc hd hc2 hd2
  refine wpAny_richCompare_same_room (op := .Eq) ⟨_, ho, rfl⟩ ⟨_, ho2, rfl⟩ F.slot_tuple_eq (call_here F.slot_tuple_eq ⟨_, ho, rfl⟩ F.entry_tuple_eq (F.args_tuple_eq_2 _ _) ?_) hu
  exact tuple_eqB (R := wants (fun v s' => v ≠ .notImplemented ∧ Q v s') E) l b items items2 n n2 dd dd2 sl sl2 I Fl turn (fun s' q => ⟨(fun x => nomatch x), fin s' q⟩) (fun s' q => ⟨(fun x => nomatch x), fal s' q⟩) ho ho2 h
theorem rc_tupNe {l b : Addr} {items items2 : Array Value} {Q : Value → Shared → Prop} (hu : A.units < cLine) (I : Nat → Shared → Prop) (Fl : Shared → Prop)
    (hl : s.heap.IsTuple l items) (hb : s.heap.IsTuple b items2)
    (turn : ∀ i (h1 : i < items.size) (h2 : i < items2.size) s, I i s → wpAny (model prog w) A.in1 (eqBool items[i] items2[i]) (fun r s' => if r then I (i + 1) s' else Fl s') E s)
    (fin : ∀ s, I (min items.size items2.size) s → Q (.bool (items.size != items2.size)) s) (fal : ∀ s, Fl s → Q (.bool true) s) (h : I 0 s) : wpAny (model prog w) A (richCompare .NotEq (.ref l) (.ref b)) Q E s := by
  obtain ⟨⟨cls, dd, data, sl⟩, ho, hc, n, hd⟩ := id hl
  obtain ⟨⟨cls2, dd2, data2, sl2⟩, ho2, hc2, n2, hd2⟩ := id hb
  simp only at hc hd hc2 hd2
  subst hc hd hc2 hd2
  refine wpAny_richCompare_same_room (op := .NotEq) ⟨_, ho, rfl⟩ ⟨_, ho2, rfl⟩ F.slot_tuple_ne (call_here F.slot_tuple_ne ⟨_, ho, rfl⟩ F.entry_tuple_ne (F.args_tuple_ne_2 _ _) ?_) hu
  exact tuple_neB (R := wants (fun v s' => v ≠ .notImplemented ∧ Q v s') E) l b items items2 n n2 dd dd2 sl sl2 I Fl turn (fun s' q => ⟨(fun x => nomatch x), fin s' q⟩) (fun s' q => ⟨(fun x => nomatch x), fal s' q⟩) ho ho2 h
end
end GQ
namespace DL
open PySem PySem.Spec PyProof.Rows L2
variable [LamTab]
/-! ### == of lists and tuples with items of own classes -/
mutual
def solid : D → Bool
  | .non => true
  | .bl _ => true
  | .int _ => true
  | .str _ => true
  | .tup ds => solids ds
  | .lst ds => solids ds
  | .obj _ ds => solids ds
  | .loc _ => false
  | .val _ => false
  | .xob _ _ => false
  | .lam _ _ => false
  | .clo _ _ => false
def solids : List D → Bool
  | [] => true
  | d :: ds => solid d && solids ds
end
theorem relV_abs : ∀ {x : V} {u : Value}, RelV x u → absV u = some x
  | .non, _, h => by cases h; rfl
  | .bl _, _, h => by cases h; rfl
  | .int _, _, ⟨t, h⟩ => by cases h; rfl
  | .str _, _, ⟨t, h⟩ => by cases h; rfl
  | .byt _, _, ⟨t, h⟩ => by cases h; rfl
  | .flt _, _, ⟨t, h⟩ => by cases h; rfl
  | .ref _, _, h => by cases h; rfl
  | .ty _, _, h => by cases h; rfl
theorem relV_inj {x y : V} {u : Value} (h : RelV x u) (k : RelV y u) : x = y := Option.some.inj ((relV_abs h).symm.trans (relV_abs k))
theorem vals_inj : ∀ {xs ys : List V} {us : List Value}, Vals xs us → Vals ys us → xs = ys
  | _, _, _, .nil, .nil => rfl
  | _, _, _, .cons h r, .cons h' r' => by rw [relV_inj h h', vals_inj r r']
section
variable {X : Cx} {pins : List (Addr × Obj)} {σ : L2.St} {S : Wd} {m : Mu} {s : Shared}
theorem sqT_inj {H : Hp} (I : Inv X pins σ H s) {a : Addr} {xs ys : List V} (h : SqT X.K H a xs) (k : SqT X.K H a ys) : xs = ys := by
  obtain ⟨its, r, ⟨o, ho, hc, n, hd⟩, _⟩ := I.tuple h
  obtain ⟨its2, r2, ⟨o2, ho2, hc2, n2, hd2⟩, _⟩ := I.tuple k
  rw [ho] at ho2
  cases ho2
  rw [hd] at hd2
  injection hd2 with e1 e2
  have : its = its2 := by simpa using congrArg Array.toList e1
  subst this
  exact vals_inj r r2
theorem sqL_inj {H : Hp} (I : Inv X pins σ H s) {a : Addr} {xs ys : List V} (h : SqL X.K H a xs) (k : SqL X.K H a ys) : xs = ys := by
  obtain ⟨its, r, ⟨o, n, ho, hc, _, hd⟩, _⟩ := I.list h
  obtain ⟨its2, r2, ⟨o2, n2, ho2, hc2, _, hd2⟩, _⟩ := I.list k
  rw [ho] at ho2
  cases ho2
  rw [hd] at hd2
  injection hd2 with e1 e2
  have : its = its2 := by simpa using congrArg Array.toList e1
  subst this
  exact vals_inj r r2
theorem sq_no {H : Hp} (I : Inv X pins σ H s) {a : Addr} {xs ys : List V} (h : SqT X.K H a xs) (k : SqL X.K H a ys) : False := by
  obtain ⟨its, r, ⟨o, ho, hc, n, hd⟩, _⟩ := I.tuple h
  obtain ⟨its2, r2, ⟨o2, n2, ho2, hc2, _, hd2⟩, _⟩ := I.list k
  rw [ho] at ho2
  cases ho2
  rw [hc] at hc2
  injection hc2 with e
  exact absurd e (by decide)
theorem insT_no {H : Hp} (I : Inv X pins σ H s) {a C dx : Addr} {fs : List (Str × V)} {xs : List V} (h : SqT X.K H a xs) (k : H a = some (.ins C dx fs)) : False := by
  obtain ⟨its, r, ⟨o, ho, hc, n, hd⟩, _⟩ := I.tuple h
  obtain ⟨od, J⟩ := Inv.inst I k
  rw [J.at_] at ho
  cases ho
  cases hc
theorem insL_no {H : Hp} (I : Inv X pins σ H s) {a C dx : Addr} {fs : List (Str × V)} {xs : List V} (h : SqL X.K H a xs) (k : H a = some (.ins C dx fs)) : False := by
  obtain ⟨its, r, ⟨o, n, ho, hc, _, hd⟩, _⟩ := I.list h
  obtain ⟨od, J⟩ := Inv.inst I k
  rw [J.at_] at ho
  cases ho
  cases hc
mutual
theorem rep_inj (I : Inv X pins σ S.H s) (sa : Sta X.K S m) : ∀ (x : D) {y : D} {v : V}, solid x = true → solid y = true → Rep X.K S.i S.F x v → Rep X.K S.i S.F y v → x = y
  | .non, y, v, _, h, r, q => by cases r; cases q <;> first | rfl | simp [solid] at h
  | .bl b, y, v, _, h, r, q => by cases r; cases q <;> first | rfl | simp [solid] at h
  | .int b, y, v, _, h, r, q => by cases r; cases q <;> first | rfl | simp [solid] at h
  | .str b, y, v, _, h, r, q => by cases r; cases q <;> first | rfl | simp [solid] at h
  | .tup ds, y, v, g, h, r, q => by
    cases r with
    | tup h1 h2 =>
      cases q with
      | tup k1 k2 =>
        have e := sqT_inj I (SqT.ext' h1 sa.sub) (SqT.ext' k1 sa.sub)
        subst e
        rw [reps_inj I sa ds (by simpa [solid] using g) (by simpa [solid] using h) h2 k2]
      | lst k1 k2 => exact (sq_no I (SqT.ext' h1 sa.sub) (SqL.ext' k1 sa.sub)).elim
      | obj k1 k2 k3 => exact (insT_no I (SqT.ext' h1 sa.sub) (sa.sub _ _ k1)).elim
      | _ => simp [solid] at h
  | .lst ds, y, v, g, h, r, q => by
    cases r with
    | lst h1 h2 =>
      cases q with
      | lst k1 k2 =>
        have e := sqL_inj I (SqL.ext' h1 sa.sub) (SqL.ext' k1 sa.sub)
        subst e
        rw [reps_inj I sa ds (by simpa [solid] using g) (by simpa [solid] using h) h2 k2]
      | tup k1 k2 => exact (sq_no I (SqT.ext' k1 sa.sub) (SqL.ext' h1 sa.sub)).elim
      | obj k1 k2 k3 => exact (insL_no I (SqL.ext' h1 sa.sub) (sa.sub _ _ k1)).elim
      | _ => simp [solid] at h
  | .obj c ds, y, v, g, h, r, q => by
    cases r with
    | obj h1 h2 h3 =>
      cases q with
      | @obj c' ds' a' dx' vs' k1 k2 k3 =>
        rw [h1] at k1
        injection k1 with k1
        injection k1 with e1 e2 e3
        subst e3
        obtain ⟨a, ns⟩ := c
        obtain ⟨a', ns'⟩ := c'
        simp only at e1 h2 k2
        subst e1
        rw [← h2, ← k2, reps_inj I sa ds (by simpa [solid] using g) (by simpa [solid] using h) h3 k3]
      | tup k1 k2 => exact (insT_no I (SqT.ext' k1 sa.sub) (sa.sub _ _ h1)).elim
      | lst k1 k2 => exact (insL_no I (SqL.ext' k1 sa.sub) (sa.sub _ _ h1)).elim
      | _ => simp [solid] at h
  | .loc _, _, _, g, _, _, _ => by simp [solid] at g
  | .val _, _, _, g, _, _, _ => by simp [solid] at g
  | .xob _ _, _, _, g, _, _, _ => by simp [solid] at g
  | .lam _ _, _, _, g, _, _, _ => by simp [solid] at g
  | .clo _ _, _, _, g, _, _, _ => by simp [solid] at g
theorem reps_inj (I : Inv X pins σ S.H s) (sa : Sta X.K S m) : ∀ (xs : List D) {ys : List D} {vs : List V}, solids xs = true → solids ys = true → Reps X.K S.i S.F xs vs → Reps X.K S.i S.F ys vs → xs = ys
  | [], ys, vs, _, _, r, q => by cases r; cases q; rfl
  | x :: xs, ys, vs, g, h, r, q => by
    cases r with
    | cons h1 h2 =>
      cases q with
      | cons k1 k2 =>
        simp only [solids, Bool.and_eq_true] at g h
        rw [rep_inj I sa x g.1 h.1 h1 k1, reps_inj I sa xs g.2 h.2 h2 k2]
end
end

open Classical in
/-- a def's answer where it leaves the store as it is -/
noncomputable def pureB (r : Res D) (m : Mu) : Option Bool := match r with
  | .ok (.bl b) m1 => if m1 = m then some b else none
  | _ => none
def eqXs (f : D → D → Option Bool) : List D → List D → Option Bool
  | x :: xs, y :: ys => match f x y with
    | some true => eqXs f xs ys
    | some false => some false
    | none => none
  | _, _ => some true
open Classical in
/-- within a list or tuple: the same object is equal to itself -/
noncomputable def eqI (f : D → D → Option Bool) (x y : D) : Option Bool := if solid x = true ∧ solid y = true then (match f x y with
  | some b => if (x = y → b = true) then some b else none
  | none => none) else none
noncomputable def eqX (rows : List (Kl × DFn × List Tg)) (m : Mu) : Nat → D → D → Option Bool
  | 0, _, _ => none
  | n + 1, x, y => match insOf m x with
    | some (C, ns, _) => (match eqRow rows C ns, tagOf m y with
      | some (G, ts), some t => if t ∈ ts then pureB (G [x, y] m) m else none
      | _, _ => none)
    | none => match seqL m x, seqL m y with
      | some xs, some ys => if xs.length = ys.length then eqXs (eqI (eqX rows m n)) xs ys else some false
      | _, _ => match seqT x, seqT y with
        | some xs, some ys => (eqXs (eqI (eqX rows m n)) xs ys).map fun b => b && decide (xs.length = ys.length)
        | _, _ => match pyOf m x, pyOf m y with
          | some d, some e => if SeqAt.shaped d && SeqAt.shaped e then some (PyData.eqv d e) else none
          | _, _ => none
noncomputable def gEqX (neg : Bool) (rows : List (Kl × DFn × List Tg)) (n : Nat) : D2 := fun x y m => match eqX rows m n x y with
  | some b => .ok (.bl (neg ^^ b)) m
  | none => .stuck
section
variable {X : Cx} {k : Nat} {rows : List (Kl × DFn × List Tg)}
/-- the state of a comparison: further on, the same data -/
def At (X : Cx) (pins : List (Addr × Obj)) (σ : L2.St) (S : Wd) (m : Mu) (s : Shared) : Prop := ∃ T, Stp S T ∧ Sta X.K T m ∧ Inv X pins σ T.H s
theorem pureB_some {r : Res D} {m : Mu} {b : Bool} (h : pureB r m = some b) : r = .ok (.bl b) m := by
  unfold pureB at h
  split at h
  · rename_i b' m1
    split at h
    · rename_i e; cases h; rw [e]
    · cases h
  · cases h
theorem eqI_some {f : D → D → Option Bool} {x y : D} {b : Bool} (h : eqI f x y = some b) : solid x = true ∧ solid y = true ∧ f x y = some b ∧ (x = y → b = true) := by
  unfold eqI at h
  split at h
  · rename_i hs
    cases q : f x y with
    | none => rw [q] at h; cases h
    | some b' =>
      rw [q] at h
      dsimp only at h
      split at h
      · rename_i e; cases h; exact ⟨hs.1, hs.2, rfl, e⟩
      · cases h
  · cases h
def EqIt (X : Cx) (k : Nat) (f : Mu → D → D → Option Bool) : Prop := ∀ (A : Around) (pins : List (Addr × Obj)) (σ : L2.St) (S : Wd) (m : Mu) (x y : D) (vx vy : V) (u w : Value) (s : Shared) (b : Bool), Room k A → A.frames = X.A.frames → Sta X.K S m → Rep X.K S.i S.F x vx → Rep X.K S.i S.F y vy → Inv X pins σ S.H s → RelV vx u → RelV vy w →
  f m x y = some b → wpAny (model X.prog X.w) A (eqBool u w) (fun r s' => r = b ∧ At X pins σ S m s') X.xe s
def RcIt (X : Cx) (k : Nat) (neg : Bool) (f : Mu → D → D → Option Bool) : Prop := ∀ (A : Around) (pins : List (Addr × Obj)) (σ : L2.St) (S : Wd) (m : Mu) (x y : D) (vx vy : V) (u w : Value) (s : Shared) (b : Bool), Room k A → A.frames = X.A.frames → Sta X.K S m → Rep X.K S.i S.F x vx → Rep X.K S.i S.F y vy → Inv X pins σ S.H s → RelV vx u → RelV vy w →
  f m x y = some b → wpAny (model X.prog X.w) A (compareOp (if neg then .NotEq else .Eq) u w) (fun r s' => r = .bool (neg ^^ b) ∧ At X pins σ S m s') X.xe s
/-- what the walk over the items keeps -/
def LpI (X : Cx) (pins : List (Addr × Obj)) (σ : L2.St) (S : Wd) (m : Mu) (f : D → D → Option Bool) (xs ys : List D) (b : Bool) (i : Nat) (s : Shared) : Prop := At X pins σ S m s ∧ eqXs f (xs.drop i) (ys.drop i) = some b
theorem lp_turn {f : Mu → D → D → Option Bool} (hf : EqIt X k f) {A : Around} (hr : Room k A.in1) (hA : A.frames = X.A.frames) {pins : List (Addr × Obj)} {σ : L2.St} {S T : Wd} {m : Mu} {xs ys : List D} {vs us : List V} {its its2 : List Value} {b : Bool} {s : Shared}
    (st : Stp S T) (sa : Sta X.K T m) (I : Inv X pins σ T.H s) (r : Reps X.K T.i T.F xs vs) (q : Reps X.K T.i T.F ys us) (rv : Vals vs its) (qv : Vals us its2)
    (i : Nat) (h1 : i < its.toArray.size) (h2 : i < its2.toArray.size) (he : eqXs (f m) (xs.drop i) (ys.drop i) = some b) :
    wpAny (model X.prog X.w) A.in1 (eqBool its.toArray[i] its2.toArray[i]) (fun r s' => if r then LpI X pins σ S m (f m) xs ys b (i + 1) s' else b = false ∧ At X pins σ S m s') X.xe s := by
  have g1 : i < its.length := by simpa using h1
  have g2 : i < its2.length := by simpa using h2
  have k1 : i < vs.length := by rw [rv.length]; exact g1
  have k2 : i < us.length := by rw [qv.length]; exact g2
  have j1 : i < xs.length := by rw [r.len]; exact k1
  have j2 : i < ys.length := by rw [q.len]; exact k2
  obtain ⟨u, hu, ru⟩ := rv.get (List.getElem?_eq_getElem k1)
  obtain ⟨w, hw, rw'⟩ := qv.get (List.getElem?_eq_getElem k2)
  obtain ⟨v1, e1, rx⟩ := r.get (List.getElem?_eq_getElem j1)
  obtain ⟨v2, e2, ry⟩ := q.get (List.getElem?_eq_getElem j2)
  rw [List.getElem?_eq_getElem k1] at e1
  rw [List.getElem?_eq_getElem k2] at e2
  cases e1
  cases e2
  rw [List.drop_eq_getElem_cons j1, List.drop_eq_getElem_cons j2] at he
  unfold eqXs at he
  have c1 : its.toArray[i] = u := by
    rw [List.getElem?_eq_getElem g1] at hu
    simpa using Option.some.inj hu
  have c2 : its2.toArray[i] = w := by
    rw [List.getElem?_eq_getElem g2] at hw
    simpa using Option.some.inj hw
  rw [c1, c2]
  cases hb : f m xs[i] ys[i] with
  | none => rw [hb] at he; cases he
  | some b' =>
    rw [hb] at he
    refine wpAny_mono (hf A.in1 pins σ T m _ _ _ _ u w s b' hr hA sa rx ry I ru rw' hb) (fun r s' z => ?_) fun _ _ x => x
    obtain ⟨rfl, U, st2, sa2, I2⟩ := z
    cases r with
    | true => exact ⟨⟨U, st.trans st2, sa2, I2⟩, he⟩
    | false => exact ⟨(Option.some.inj he).symm, U, st.trans st2, sa2, I2⟩
theorem eqXs_nil_l {f : D → D → Option Bool} {ys : List D} : eqXs f [] ys = some true := by unfold eqXs; rfl
theorem eqXs_nil_r {f : D → D → Option Bool} {xs : List D} : eqXs f xs [] = some true := by cases xs <;> (unfold eqXs; rfl)
theorem lp_end {f : D → D → Option Bool} {xs ys : List D} {b : Bool} {i : Nat} (h : min xs.length ys.length ≤ i) (he : eqXs f (xs.drop i) (ys.drop i) = some b) : b = true := by
  by_cases hx : xs.length ≤ i
  · rw [List.drop_of_length_le hx, eqXs_nil_l] at he; exact (Option.some.inj he).symm
  · rw [List.drop_of_length_le (by omega : ys.length ≤ i), eqXs_nil_r] at he; exact (Option.some.inj he).symm
theorem eqBool_refW {prog : Program} {w : World} {A : Around} {E : Value → Shared → Prop} {s : Shared} {l : Addr} {b : Value} {Q : Bool → Shared → Prop} (hne : Value.ref l ≠ b) (h : wpAny (model prog w) A (richCompare .Eq (.ref l) b) (fun v s' => ∃ r, v = .bool r ∧ Q r s') E s) : wpAny (model prog w) A (eqBool (.ref l) b) Q E s := by
  unfold eqBool
  refine wpAny_holding ?_
  refine wpAny_ite_split (fun hab => absurd (eq_of_beq hab) hne) (fun _ => ?_)
  refine wpAny_bind (wpAny_mono h (fun v s' hv => ?_) fun _ _ x => x)
  obtain ⟨r, rfl, q⟩ := hv
  exact wpAny_truthy_bool q
theorem rc_obj (hrows : ∀ r ∈ rows, EqOk X.prog X.w X.K X.mg X.base k r) {A : Around} (hr : Room k A) (hA : A.frames = X.A.frames) {pins : List (Addr × Obj)} {σ : L2.St} {S : Wd} {m : Mu} {x y : D} {vx vy : V} {u w : Value} {s : Shared} {b : Bool} (sa : Sta X.K S m) (rx : Rep X.K S.i S.F x vx) (ry : Rep X.K S.i S.F y vy) (I : Inv X pins σ S.H s) (hu : RelV vx u) (hw : RelV vy w)
    {C : Addr} {ns : List Str} {ds : List D} (ei : insOf m x = some (C, ns, ds)) {G : DFn} {ts : List Tg} {t : Tg} (eG : eqRow rows C ns = some (G, ts)) (eT : tagOf m y = some t) (ht : t ∈ ts) (h : G [x, y] m = .ok (.bl b) m) :
    ∃ a, u = .ref a ∧ wpAny (model X.prog X.w) A (richCompare .Eq u w) (fun r s' => r = .bool b ∧ At X pins σ S m s') X.xe s := by
  obtain ⟨c, ok, rfl, rfl⟩ := eqRow_ok (P := EqOk X.prog X.w X.K X.mg X.base k) hrows eG
  obtain ⟨a, dx, vs, rfl, h1, h2, h3⟩ := insOf_ok sa rx ei
  obtain ⟨f, fd, ps, dds, G0, hf1, hf2, hk, hf, hb, e⟩ := ok.mt.ex
  have e : G = padF ps.length dds G0 := e
  subst e
  obtain rfl : u = Value.ref a := hu
  refine ⟨a, rfl, ?_⟩
  obtain ⟨od1, J1⟩ := Inv.inst I h1
  obtain ⟨mm, F⟩ := I.fr
  refine PySem.W.cmp_K (op := .Eq) hr.units0 F I.ok.mod.kin J1 (tag_looks I sa ry hw eT) (ok.nf t ht) hf1 hf2 (thn (run_fnA (us := [.ref a, w]) (Q := fun v H => v = .bl b ∧ ∃ T, T.H = H ∧ Stp S T ∧ Sta X.K T m) hf hr hb hA I sa (.cons rx (.cons ry .nil)) (.cons rfl (.cons hw .nil)) ?_) fun v s1 hq => ?_)
  · rw [h]
    intro v T st sa1 rv
    cases rv
    exact ⟨rfl, T, rfl, st, sa1⟩
  · obtain ⟨y', H', I', r, rfl, T, rfl, st, sa1⟩ := hq
    cases r
    exact ⟨rfl, T, st, sa1, I'⟩
theorem at_refl {pins : List (Addr × Obj)} {σ : L2.St} {S : Wd} {m : Mu} {s : Shared} (sa : Sta X.K S m) (I : Inv X pins σ S.H s) : At X pins σ S m s := ⟨S, Stp.refl S, sa, I⟩
/-- two lists -/
theorem rc_lists {f : Mu → D → D → Option Bool} (hf : EqIt X k f) {neg : Bool} {A : Around} (hr : Room (k + 1) A) (hA : A.frames = X.A.frames) {pins : List (Addr × Obj)} {σ : L2.St} {S : Wd} {m : Mu} {x y : D} {vx vy : V} {u w : Value} {s : Shared} {b : Bool} (sa : Sta X.K S m) (rx : Rep X.K S.i S.F x vx) (ry : Rep X.K S.i S.F y vy) (I : Inv X pins σ S.H s) (hu : RelV vx u) (hw : RelV vy w)
    {xs ys : List D} (ex : seqL m x = some xs) (ey : seqL m y = some ys) (h : (if xs.length = ys.length then eqXs (f m) xs ys else some false) = some b) :
    ∃ a c, u = .ref a ∧ w = .ref c ∧ wpAny (model X.prog X.w) A (richCompare (if neg then .NotEq else .Eq) u w) (fun r s' => r = .bool (neg ^^ b) ∧ At X pins σ S m s') X.xe s := by
  obtain ⟨a, vs, rfl, sx, rvs⟩ := seqL_ok sa rx ex
  obtain ⟨c, us, rfl, sy, rus⟩ := seqL_ok sa ry ey
  obtain rfl : u = Value.ref a := hu
  obtain rfl : w = Value.ref c := hw
  refine ⟨a, c, rfl, rfl, ?_⟩
  split at h
  · rename_i hl
    have LB : GQ.ListB X.prog X.w A X.xe a c xs.length (LpI X pins σ S m (f m) xs ys b) (fun s' => b = false ∧ At X pins σ S m s') := by
      rintro i s' ⟨⟨T, st, saT, IT⟩, he⟩
      obtain ⟨a', vs', e1, sx', rvs'⟩ := seqL_ok saT (rx.stp st) ex
      obtain ⟨c', us', e2, sy', rus'⟩ := seqL_ok saT (ry.stp st) ey
      cases e1
      cases e2
      obtain ⟨its, qv, ⟨⟨cl, dd, dt, sl⟩, n, ho, hc, hd, hdt⟩, _⟩ := IT.list sx'
      obtain ⟨its2, qu, ⟨⟨cl2, dd2, dt2, sl2⟩, n2, ho2, hc2, hd2, hdt2⟩, _⟩ := IT.list sy'
      simp only at hc hd hdt hc2 hd2 hdt2
      subst hc hdt hc2 hdt2
      have z1 : its.toArray.size = xs.length := by rw [List.size_toArray, ← qv.length, ← rvs'.len]
      have z2 : its2.toArray.size = xs.length := by rw [List.size_toArray, ← qu.length, ← rus'.len, hl]
      refine ⟨its.toArray, its2.toArray, n, n2, dd, dd2, sl, sl2, ho, ho2, z1, z2, fun h1 h2 => ?_⟩
      refine wpAny_mono (lp_turn hf hr.in1 hA st saT IT rvs' rus' qv qu i h1 h2 he) (fun r s2 z => ?_) fun _ _ x => x
      cases r with
      | true => exact z
      | false =>
        obtain ⟨rfl, U, st2, sa2, I2⟩ := (z : b = false ∧ At X pins σ S m s2)
        obtain ⟨a', vs2, e1, sx2, rvs2⟩ := seqL_ok sa2 (rx.stp st2) ex
        obtain ⟨c', us2, e2, sy2, rus2⟩ := seqL_ok sa2 (ry.stp st2) ey
        cases e1
        cases e2
        obtain ⟨its3, qv3, ⟨⟨cl, dd, dt, sl⟩, n, ho, hc, hd, hdt⟩, _⟩ := I2.list sx2
        obtain ⟨its4, qu4, ⟨⟨cl2, dd2, dt2, sl2⟩, n2, ho2, hc2, hd2, hdt2⟩, _⟩ := I2.list sy2
        simp only at hc hd hdt hc2 hd2 hdt2
        subst hc hdt hc2 hdt2
        exact ⟨⟨rfl, U, st2, sa2, I2⟩, its3.toArray, its4.toArray, n, n2, dd, dd2, sl, sl2, ho, ho2, by rw [List.size_toArray, ← qv3.length, ← rvs2.len], by rw [List.size_toArray, ← qu4.length, ← rus2.len, hl]⟩
    have h0 : LpI X pins σ S m (f m) xs ys b 0 s := ⟨at_refl sa I, by simpa using h⟩
    have fin : ∀ s', LpI X pins σ S m (f m) xs ys b xs.length s' → b = true ∧ At X pins σ S m s' := fun s' z => ⟨lp_end (by omega) z.2, z.1⟩
    cases neg with
    | false => exact GQ.rc_listB hr.units0 _ _ LB (fun s' z => by obtain ⟨rfl, q⟩ := fin s' z; exact ⟨rfl, q⟩) (fun s' z => by obtain ⟨rfl, q⟩ := z; exact ⟨rfl, q⟩) h0
    | true => exact GQ.rc_listNe hr.units0 _ _ LB (fun s' z => by obtain ⟨rfl, q⟩ := fin s' z; exact ⟨rfl, q⟩) (fun s' z => by obtain ⟨rfl, q⟩ := z; exact ⟨rfl, q⟩) h0
  · rename_i hl
    cases h
    obtain ⟨its, qv, ⟨⟨cl, dd, dt, sl⟩, n, ho, hc, hd, hdt⟩, _⟩ := I.list sx
    obtain ⟨its2, qu, ⟨⟨cl2, dd2, dt2, sl2⟩, n2, ho2, hc2, hd2, hdt2⟩, _⟩ := I.list sy
    simp only at hc hd hdt hc2 hd2 hdt2
    subst hc hdt hc2 hdt2
    have hsz : its.toArray.size ≠ its2.toArray.size := by rw [List.size_toArray, List.size_toArray, ← qv.length, ← rvs.len, ← qu.length, ← rus.len]; exact hl
    cases neg with
    | false => exact GQ.rc_listL hr.units0 ho ho2 hsz ⟨rfl, at_refl sa I⟩
    | true => exact GQ.rc_listLNe hr.units0 ho ho2 hsz ⟨rfl, at_refl sa I⟩
theorem rc_tups {f : Mu → D → D → Option Bool} (hf : EqIt X k f) {neg : Bool} {A : Around} (hr : Room (k + 1) A) (hA : A.frames = X.A.frames) {pins : List (Addr × Obj)} {σ : L2.St} {S : Wd} {m : Mu} {x y : D} {vx vy : V} {u w : Value} {s : Shared} {b : Bool} (sa : Sta X.K S m) (rx : Rep X.K S.i S.F x vx) (ry : Rep X.K S.i S.F y vy) (I : Inv X pins σ S.H s) (hu : RelV vx u) (hw : RelV vy w)
    {xs ys : List D} (ex : seqT x = some xs) (ey : seqT y = some ys) (h : (eqXs (f m) xs ys).map (fun b => b && decide (xs.length = ys.length)) = some b) :
    ∃ a c, u = .ref a ∧ w = .ref c ∧ wpAny (model X.prog X.w) A (richCompare (if neg then .NotEq else .Eq) u w) (fun r s' => r = .bool (neg ^^ b) ∧ At X pins σ S m s') X.xe s := by
  obtain ⟨a, vs, rfl, sx, rvs⟩ := seqT_ok sa rx ex
  obtain ⟨c, us, rfl, sy, rus⟩ := seqT_ok sa ry ey
  obtain rfl : u = Value.ref a := hu
  obtain rfl : w = Value.ref c := hw
  refine ⟨a, c, rfl, rfl, ?_⟩
  cases he : eqXs (f m) xs ys with
  | none => rw [he] at h; cases h
  | some b0 =>
    rw [he] at h
    have h : (b0 && decide (xs.length = ys.length)) = b := Option.some.inj h
    obtain ⟨its, qv, hT, _⟩ := I.tuple sx
    obtain ⟨its2, qu, hT2, _⟩ := I.tuple sy
    have z1 : its.toArray.size = xs.length := by rw [List.size_toArray, ← qv.length, ← rvs.len]
    have z2 : its2.toArray.size = ys.length := by rw [List.size_toArray, ← qu.length, ← rus.len]
    have turn : ∀ i (h1 : i < its.toArray.size) (h2 : i < its2.toArray.size) s', LpI X pins σ S m (f m) xs ys b0 i s' → wpAny (model X.prog X.w) A.in1 (eqBool its.toArray[i] its2.toArray[i]) (fun r s' => if r then LpI X pins σ S m (f m) xs ys b0 (i + 1) s' else b0 = false ∧ At X pins σ S m s') X.xe s' := by
      rintro i h1 h2 s' ⟨⟨T, st, saT, IT⟩, he'⟩
      exact lp_turn hf hr.in1 hA st saT IT (rvs.stp st) (rus.stp st) qv qu i h1 h2 he'
    have h0 : LpI X pins σ S m (f m) xs ys b0 0 s := ⟨at_refl sa I, by simpa using he⟩
    have fin : ∀ s', LpI X pins σ S m (f m) xs ys b0 (min its.toArray.size its2.toArray.size) s' → b0 = true ∧ At X pins σ S m s' := fun s' z => ⟨lp_end (by omega) z.2, z.1⟩
    have hsz : (its.toArray.size == its2.toArray.size) = decide (xs.length = ys.length) := by rw [z1, z2]; rfl
    have hszn : (its.toArray.size != its2.toArray.size) = !decide (xs.length = ys.length) := by rw [z1, z2]; rfl
    cases neg with
    | false => exact GQ.rc_tupB hr.units0 _ (fun s' => b0 = false ∧ At X pins σ S m s') hT hT2 turn (fun s' z => by obtain ⟨rfl, q⟩ := fin s' z; exact ⟨by rw [hsz, ← h]; simp, q⟩) (fun s' z => by obtain ⟨rfl, q⟩ := z; exact ⟨by rw [← h]; simp, q⟩) h0
    | true => exact GQ.rc_tupNe hr.units0 _ (fun s' => b0 = false ∧ At X pins σ S m s') hT hT2 turn (fun s' z => by obtain ⟨rfl, q⟩ := fin s' z; exact ⟨by rw [hszn, ← h]; simp, q⟩) (fun s' z => by obtain ⟨rfl, q⟩ := z; exact ⟨by rw [← h]; simp, q⟩) h0
theorem eqIt_X (hrows : ∀ r ∈ rows, EqOk X.prog X.w X.K X.mg X.base k r) : ∀ n : Nat, EqIt X (k + n) (fun m => eqI (eqX rows m n))
  | 0 => by
    intro A pins σ S m x y vx vy u w s b hr hA sa rx ry I hu hw h
    obtain ⟨_, _, h, _⟩ := eqI_some h
    unfold eqX at h; cases h
  | n + 1 => by
    have ih := eqIt_X hrows n
    intro A pins σ S m x y vx vy u w s b hr hA sa rx ry I hu hw h
    obtain ⟨s1, s2, h, hxy⟩ := eqI_some h
    have same : ∀ a, u = .ref a → w = .ref a → b = true := fun a e1 e2 => by
      subst e1; subst e2
      have := relV_inj hu hw
      subst this
      exact hxy (rep_inj I sa x s1 s2 rx ry)
    have done : ∀ a, u = .ref a → wpAny (model X.prog X.w) A (richCompare .Eq u w) (fun r s' => r = .bool b ∧ At X pins σ S m s') X.xe s → wpAny (model X.prog X.w) A (eqBool u w) (fun r s' => r = b ∧ At X pins σ S m s') X.xe s := fun a e hh => by
      subst e
      by_cases hab : Value.ref a = w
      · subst hab
        have := same a rfl rfl
        subst this
        exact SeqAt.EqAt.same (A := A) (s := s) (.ref a) X.prog X.w X.xe _ ⟨rfl, at_refl sa I⟩
      · exact eqBool_refW hab (wpAny_mono hh (fun r s' z => ⟨b, z.1, rfl, z.2⟩) fun _ _ x => x)
    unfold eqX at h
    split at h
    · rename_i C ns ds ei
      split at h
      · rename_i G ts t eG eT
        split at h
        · rename_i ht
          obtain ⟨a, e, q⟩ := rc_obj hrows (hr.mono (by omega)) hA sa rx ry I hu hw ei eG eT ht (pureB_some h)
          exact done a e q
        · cases h
      · cases h
    · split at h
      · rename_i xs ys ex ey
        obtain ⟨a, c, e1, e2, q⟩ := rc_lists (neg := false) ih hr hA sa rx ry I hu hw ex ey h
        exact done a e1 (wpAny_mono q (fun r s' z => ⟨by rw [z.1, Bool.false_xor], z.2⟩) fun _ _ x => x)
      · split at h
        · rename_i xs ys ex ey
          obtain ⟨a, c, e1, e2, q⟩ := rc_tups (neg := false) ih hr hA sa rx ry I hu hw ex ey h
          exact done a e1 (wpAny_mono q (fun r s' z => ⟨by rw [z.1, Bool.false_xor], z.2⟩) fun _ _ x => x)
        · split at h
          · rename_i d e e1 e2
            split at h
            · rename_i hs
              obtain ⟨h1, h2⟩ := Bool.and_eq_true_iff.mp hs
              cases h
              obtain ⟨as, r1⟩ := Dp.reads I d vx u (pyOf_ok sa rx e1) hu
              obtain ⟨bs, r2⟩ := Dp.reads I e vy w (pyOf_ok sa ry e2) hw
              exact SeqAt.eqAt_reads d e A s u w as bs r1 r2 (SeqAt.canLay_of_shaped h1) (SeqAt.canLay_of_shaped h2) (SeqAt.room_of_shaped h1 hr.units) X.prog X.w X.xe _ ⟨rfl, at_refl sa I⟩
            · cases h
          · cases h
theorem od_eqX (hrows : ∀ r ∈ rows, EqOk X.prog X.w X.K X.mg X.base k r) (n : Nat) (hr : Room (k + n) X.A) : OD X (compareOp .Eq) (gEqX false rows n) := by
  intro pins s σ S m x y vx vy u w Q sa rx ry I hu hw p
  unfold gEqX at p
  split at p
  · rename_i b hb
    have fin : wpAny (model X.prog X.w) X.A (richCompare .Eq u w) (fun r s' => r = .bool b ∧ At X pins σ S m s') X.xe s → wpAny (model X.prog X.w) X.A (compareOp .Eq u w) (EP X pins σ Q) X.xe s := fun z => by
      refine wpAny_mono z (fun r s' q => ?_) fun _ _ x => x
      obtain ⟨rfl, T, st, sa1, I1⟩ := q
      rw [Bool.false_xor] at p
      exact ⟨.bl b, T.H, I1, rfl, Post.ok p st sa1 (.bl b)⟩
    cases n with
    | zero => unfold eqX at hb; cases hb
    | succ n =>
      have ih := eqIt_X hrows n
      unfold eqX at hb
      split at hb
      · rename_i C ns ds ei
        split at hb
        · rename_i G ts t eG eT
          split at hb
          · rename_i ht
            obtain ⟨a, e, q⟩ := rc_obj hrows (hr.mono (by omega)) rfl sa rx ry I hu hw ei eG eT ht (pureB_some hb)
            exact fin q
          · cases hb
        · cases hb
      · split at hb
        · rename_i xs ys ex ey
          obtain ⟨a, c, e1, e2, q⟩ := rc_lists (neg := false) ih hr rfl sa rx ry I hu hw ex ey hb
          exact fin (wpAny_mono q (fun r s' z => ⟨by rw [z.1, Bool.false_xor], z.2⟩) fun _ _ x => x)
        · split at hb
          · rename_i xs ys ex ey
            obtain ⟨a, c, e1, e2, q⟩ := rc_tups (neg := false) ih hr rfl sa rx ry I hu hw ex ey hb
            exact fin (wpAny_mono q (fun r s' z => ⟨by rw [z.1, Bool.false_xor], z.2⟩) fun _ _ x => x)
          · split at hb
            · rename_i d e e1 e2
              split at hb
              · rename_i hs
                obtain ⟨h1, h2⟩ := Bool.and_eq_true_iff.mp hs
                cases hb
                obtain ⟨as, r1⟩ := Dp.reads I d vx u (pyOf_ok sa rx e1) hu
                obtain ⟨bs, r2⟩ := Dp.reads I e vy w (pyOf_ok sa ry e2) hw
                exact fin (SeqAt.compareEq_shaped r1 r2 h1 h2 hr.units ⟨rfl, at_refl sa I⟩)
              · cases hb
            · cases hb
  · exact p.elim
/-- !=, of lists, tuples and plain data -/
noncomputable def gNeX (rows : List (Kl × DFn × List Tg)) (n : Nat) : D2 := fun x y m => match insOf m x with
  | some _ => .stuck
  | none => gEqX true rows n x y m
theorem od_neX (hrows : ∀ r ∈ rows, EqOk X.prog X.w X.K X.mg X.base k r) (n : Nat) (hr : Room (k + n) X.A) : OD X (compareOp .NotEq) (gNeX rows n) := by
  intro pins s σ S m x y vx vy u w Q sa rx ry I hu hw p
  unfold gNeX at p
  split at p
  · exact p.elim
  rename_i hins
  unfold gEqX at p
  split at p
  · rename_i b hb
    have fin : wpAny (model X.prog X.w) X.A (richCompare .NotEq u w) (fun r s' => r = .bool (true ^^ b) ∧ At X pins σ S m s') X.xe s → wpAny (model X.prog X.w) X.A (compareOp .NotEq u w) (EP X pins σ Q) X.xe s := fun z => by
      refine wpAny_mono z (fun r s' q => ?_) fun _ _ x => x
      obtain ⟨rfl, T, st, sa1, I1⟩ := q
      exact ⟨.bl (true ^^ b), T.H, I1, rfl, Post.ok p st sa1 (.bl _)⟩
    cases n with
    | zero => unfold eqX at hb; cases hb
    | succ n =>
      have ih := eqIt_X hrows n
      unfold eqX at hb
      rw [hins] at hb
      dsimp only at hb
      split at hb
      · rename_i xs ys ex ey
        obtain ⟨a, c, e1, e2, q⟩ := rc_lists (neg := true) ih hr rfl sa rx ry I hu hw ex ey hb
        exact fin q
      · split at hb
        · rename_i xs ys ex ey
          obtain ⟨a, c, e1, e2, q⟩ := rc_tups (neg := true) ih hr rfl sa rx ry I hu hw ex ey hb
          exact fin q
        · split at hb
          · rename_i d e e1 e2
            split at hb
            · rename_i hs
              obtain ⟨h1, h2⟩ := Bool.and_eq_true_iff.mp hs
              cases hb
              obtain ⟨as, r1⟩ := Dp.reads I d vx u (pyOf_ok sa rx e1) hu
              obtain ⟨bs, r2⟩ := Dp.reads I e vy w (pyOf_ok sa ry e2) hw
              exact fin (SeqAt.compareNe_shaped r1 r2 h1 h2 hr.units ⟨by rw [Bool.true_xor], at_refl sa I⟩)
            · cases hb
          · cases hb
  · exact p.elim
end
end DL
namespace DL
open PySem PySem.Spec L2
variable [LamTab]
/-! ### equations -/
section
variable {rows : List (Kl × DFn × List Tg)} {m : Mu} {n : Nat}
theorem eqX_lst (xs ys : List D) : eqX rows m (n + 1) (.lst xs) (.lst ys) = if xs.length = ys.length then eqXs (eqI (eqX rows m n)) xs ys else some false := by unfold eqX; rfl
theorem eqX_tup (xs ys : List D) : eqX rows m (n + 1) (.tup xs) (.tup ys) = (eqXs (eqI (eqX rows m n)) xs ys).map fun b => b && decide (xs.length = ys.length) := by rw [eqX.eq_def]; rfl
theorem eqX_obj (c : Kl) (ds : List D) (y : D) : eqX rows m (n + 1) (.obj c ds) y = (match eqRow rows c.a c.ns, tagOf m y with
      | some (G, ts), some t => if t ∈ ts then pureB (G [.obj c ds, y] m) m else none
      | _, _ => none) := by rw [eqX.eq_def]; rfl
theorem eqX_int (i j : Int) : eqX rows m (n + 1) (.int i) (.int j) = some (decide (i = j)) := by
  rw [eqX.eq_def]
  simp only [insOf, seqL, seqT, pyOf, thaw1, toPy]
  rw [if_pos (by rfl)]
  rfl
@[simp] theorem pureB_ok (b : Bool) (m : Mu) : pureB (.ok (.bl b) m) m = some b := by simp [pureB]
theorem eqXs_map {α : Type} [DecidableEq α] {F : α → D} {f : D → D → Option Bool} : ∀ {as bs : List α}, (∀ a ∈ as, ∀ b ∈ bs, f (F a) (F b) = some (decide (a = b))) → as.length = bs.length → eqXs f (as.map F) (bs.map F) = some (decide (as = bs))
  | [], [], _, _ => rfl
  | [], _ :: _, _, h => by simp at h
  | _ :: _, [], _, h => by simp at h
  | a :: as, b :: bs, h, hl => by
    have ih := eqXs_map (as := as) (bs := bs) (f := f) (F := F) (fun x hx y hy => h x (by simp [hx]) y (by simp [hy])) (by simpa using hl)
    simp only [List.map_cons, eqXs, h a (by simp) b (by simp)]
    by_cases e : a = b
    · simp [e, ih]
    · simp [e]
theorem eqI_map {α : Type} [DecidableEq α] {F : α → D} {f : D → D → Option Bool} {a b : α} (hi : F a = F b → a = b) (h1 : solid (F a) = true) (h2 : solid (F b) = true) (h : f (F a) (F b) = some (decide (a = b))) : eqI f (F a) (F b) = some (decide (a = b)) := by
  unfold eqI
  rw [if_pos ⟨h1, h2⟩, h]
  dsimp only
  rw [if_pos (fun e => by simpa using hi e)]
theorem eqI_of {f : D → D → Option Bool} {x y : D} {b : Bool} (h1 : solid x = true) (h2 : solid y = true) (h : f x y = some b) (hi : x = y → b = true) : eqI f x y = some b := by
  unfold eqI
  rw [if_pos ⟨h1, h2⟩, h]
  dsimp only
  rw [if_pos hi]
theorem eqX_lmap {α : Type} [DecidableEq α] {F : α → D} {as bs : List α} (hi : ∀ a b, F a = F b → a = b) (hs : ∀ a, solid (F a) = true) (h : ∀ a ∈ as, ∀ b ∈ bs, eqX rows m n (F a) (F b) = some (decide (a = b))) :
    eqX rows m (n + 1) (.lst (as.map F)) (.lst (bs.map F)) = some (decide (as = bs)) := by
  rw [eqX_lst]
  by_cases hl : as.length = bs.length
  · rw [if_pos (by simpa using hl), eqXs_map (fun a ha b hb => eqI_map (hi a b) (hs a) (hs b) (h a ha b hb)) hl]
  · rw [if_neg (by simpa using hl)]
    have : ¬ as = bs := fun e => hl (by rw [e])
    simp [this]
theorem gEqX_of {neg : Bool} {x y : D} {b : Bool} (h : eqX rows m n x y = some b) : gEqX neg rows n x y m = .ok (.bl (neg ^^ b)) m := by unfold gEqX; rw [h]
theorem gNeX_of {x y : D} {b : Bool} (hx : insOf m x = none) (h : eqX rows m n x y = some b) : gNeX rows n x y m = .ok (.bl (!b)) m := by unfold gNeX; rw [hx]; dsimp only; rw [gEqX_of h, Bool.true_xor]
end
end DL

namespace DL
open PySem PySem.Spec PyProof.Rows L2
variable [LamTab]
section
variable {X : Cx} {k : Nat}
/-! ### len of own classes -/
def dLenO (rows : List (Kl × DFn)) : DFn := fun ds m => match ds with
  | [x] => match insOf m x with
    | some (C, ns, _) => match methAt rows C ns with
      | some G => (G [x] m).bind fun r m1 => match r with
        | .int n => if 0 ≤ n ∧ n < 2 ^ 63 then .ok (.int n) m1 else .stuck
        | _ => .stuck
      | none => .stuck
    | none => .stuck
  | _ => .stuck
theorem oc_lenO {rows : List (Kl × DFn)} (hrows : ∀ r ∈ rows, MRow X.prog X.w X.K X.mg X.base k "__len__" r.1 r.2) (hr : Room (k + 1) X.A) : OC X (.builtin "len") (dLenO rows) := by
  intro pins s σ S m ds xs us Q sa r rv I p
  match ds, xs, us, r, rv with
  | [x], [vx], [u], .cons rx .nil, .cons hu .nil =>
    unfold dLenO at p
    dsimp only at p
    split at p
    · rename_i C ns ds ei
      split at p
      · rename_i G eG
        obtain ⟨c, ok, rfl, rfl⟩ := methAt_ok (P := MRow X.prog X.w X.K X.mg X.base k "__len__") hrows eG
        obtain ⟨a, dx, vs, rfl, h1, h2, h3⟩ := insOf_ok sa rx ei
        obtain ⟨f, fd, ps, dds, G0, hf1, hf2, hk, hf, hb, rfl⟩ := ok.ex
        obtain rfl : u = Value.ref a := hu
        obtain ⟨od1, J1⟩ := Inv.inst I h1
        obtain ⟨mm, F⟩ := I.fr
        refine PySem.W.len_K F I.ok.mod.kin J1 hf1 hf2 (thn (run_fnA (us := [.ref a]) (Q := fun v H => ∃ n, v = .int n ∧ (0 ≤ n ∧ n < 2 ^ 63) ∧ Q (.int n) H) hf hr.in1 hb rfl I sa (.cons rx .nil) (.cons rfl .nil) (Post.bindI p fun r m2 v U st2 sa2 rv q2 => ?_)) fun v s1 h => ?_)
        · cases rv with
          | int n =>
            dsimp only at q2
            split at q2
            · rename_i hn; exact ⟨n, rfl, hn, Post.ok q2 (Stp.refl U) sa2 (.int n)⟩
            · exact (show False from q2).elim
          | _ => exact (show False from q2).elim
        · obtain ⟨y, H, I', r, n, rfl, hn, q⟩ := h
          obtain ⟨t, rfl⟩ := r
          exact ⟨hn, ⟨.int n, H, I'.tok _, ⟨_, rfl⟩, q⟩⟩
      · exact (show False from p).elim
    · exact (show False from p).elim
  | [], _, _, _, _ => exact p.elim
  | _ :: _ :: _, _, _, _, _ => exact p.elim
/-! ### tuple(xs) -/
def gTuple : DFn := fun ds m => match ds with
  | [d] => match seqL m d with
    | some es => .ok (.tup es) m
    | none => match d with
      | .tup es => .ok (.tup es) m
      | _ => .stuck
  | _ => .stuck
theorem oc_tuple : OC X (.type "tuple") gTuple := by
  intro pins s σ S m ds xs us Q sa r rv I p
  unfold gTuple at p
  split at p
  · rename_i d
    cases r with
    | cons r rr =>
      cases rr
      cases rv with
      | cons hu hr =>
        cases hr
        rename_i v u
        split at p
        · rename_i es e
          obtain ⟨a, ys, rfl, h1, h2⟩ := seqL_ok sa r e
          refine L2.rl_tuple pins s σ S.H _ u Q I hu (.inl ⟨a, ys, rfl, h1, fun l hl => ?_⟩)
          have st := Stp.new sa (o := .tup ys) hl
          exact p (.ref l) (S.new l (.tup ys)) st (sa.new hl) (.tup (.inl (.inl upd_same)) (h2.stp st))
        · split at p
          · rename_i es _
            obtain ⟨a, ys, rfl, h1, h2⟩ := seqT_ok sa r (ds := es) rfl
            exact L2.rl_tuple pins s σ S.H _ u Q I hu (.inr ⟨a, ys, rfl, h1, Post.ok p (Stp.refl S) sa r⟩)
          · exact p.elim
  · exact p.elim
end
/-- an item of an argument list; the star test is a row of its own -/
theorem pda_c {X : Cx} {a : Expr} {es : List Expr} {ta : DE} {t : DA} (ha : PDE X a ta) (hr : PDA X es t) (hs : isStar a = false := by rfl) : PDA X (a :: es) (dCons ta t) := pda_cons ha hr (se_cons _ _ _ hs)
end DL

namespace DL
open PySem PySem.Spec PyProof.Rows L2
variable [LamTab]
/-! ### comprehensions of two sources -/
theorem resB_assoc {α β γ : Type} (r : Res α) (f : α → Mu → Res β) (g : β → Mu → Res γ) : (r.bind f).bind g = r.bind fun a m => (f a m).bind g := by cases r <;> rfl
def dLc1 (n : Nat) (g : DG) (c : DT) (b : DE) (e : En) : List D → Mu → Res Unit
  | [], m => .ok () m
  | d :: ds, m => match g d e with
    | none => .stuck
    | some e1 => match c e1 m with
      | .ok true m1 => match b e1 m1 with
        | .ok x m2 => match m2[n]? with
          | some (.lst acc) => if acc.length < sizeLine then dLc1 n g c b e ds (m2.set n (.lst (acc ++ [x]))) else .stuck
          | _ => .stuck
        | _ => .stuck
      | .ok false m1 => dLc1 n g c b e ds m1
      | _ => .stuck
def dLc2 (n : Nat) (g : DG) (c : DT) (t1 : DA) (g1 : DG) (c1 : DT) (b : DE) (vs1 : List Nat) (e : En) : List D → Mu → Res Unit
  | [], m => .ok () m
  | d :: ds, m => match g d e with
    | none => .stuck
    | some e1 => match c e1 m with
      | .ok true m1 => match t1 e1 m1 with
        | .ok ds1 m2 => (dLc1 n g1 c1 b (wipeE e1 vs1) ds1 m2).bind fun _ m3 => dLc2 n g c t1 g1 c1 b vs1 e ds m3
        | _ => .stuck
      | .ok false m1 => dLc2 n g c t1 g1 c1 b vs1 e ds m1
      | _ => .stuck
/-- [elt for tg in iter if .. for tg1 in iter1 if ..]: the list stands in the store from the start -/
def dComp2 (t : DA) (g : DG) (c : DT) (t1 : DA) (g1 : DG) (c1 : DT) (b : DE) (own vs1 : List Nat) : DE := fun e m =>
  (t e m).bind fun ds m1 => (dLc2 m1.length g c t1 g1 c1 b vs1 (wipeE e own) ds (m1 ++ [.lst []])).bind fun _ m2 => .ok (.loc m1.length) m2
@[simp ↓] theorem dComp2_ap (t : DA) (g : DG) (c : DT) (t1 : DA) (g1 : DG) (c1 : DT) (b : DE) (own vs1 : List Nat) (e : En) (m : Mu) : dComp2 t g c t1 g1 c1 b own vs1 e m =
  (t e m).bind fun ds m1 => (dLc2 m1.length g c t1 g1 c1 b vs1 (wipeE e own) ds (m1 ++ [.lst []])).bind fun _ m2 => .ok (.loc m1.length) m2 := rfl
abbrev bI (X : Cx) (scope : Scope) (tg iter : Expr) : TI := fun σ H R => ∀ s0 H0 C cl fp, WI (Bk X scope s0 H0 C cl fp) tg iter σ H R
section
variable {X : Cx} {elt tg iter tg1 iter1 : Expr} {ifs ifs1 : List Expr} {scope : Scope} {own : List (Str × Nat)} {vs1 : List Nat} {pos spos : Pos} {t t1 : DA} {g g1 : DG} {c c1 : DT} {b : DE} {sl sl1 : List Nat}
theorem lc2_go {σ : L2.St} {S : Wd} {r : En} {m : Mu} {Q : VK} (hi : PDI X tg iter t)
    (hg : ∀ s H C cl fp, PDG (Bk X scope s H C cl fp) tg g sl) (ht : ∀ s H C cl fp, PDTs (Bk X scope s H C cl fp) ifs c)
    (hi1 : ∀ s H C cl fp, PDI (Bk X scope s H C cl fp) tg1 iter1 t1)
    (hg1 : ∀ s H C cl fp, PDG (Bk X scope s H C cl fp) tg1 g1 sl1) (ht1 : ∀ s H C cl fp, PDTs (Bk X scope s H C cl fp) ifs1 c1)
    (he : ∀ s H C cl fp, PDE (Bk X scope s H C cl fp) elt b)
    (hsl : ∀ i ∈ sl, i ∈ own.map (·.2)) (hsl1 : ∀ i ∈ sl1, i ∈ vs1)
    (sa : Sta X.K S m) (re : RelE X.K S r σ) (p : PostD X.K S (dComp2 t g c t1 g1 c1 b (own.map (·.2)) vs1 r m) Q (fun c d H => Fly X c d σ H)) :
    tLc2 (WI X tg iter) (bG X scope tg) (bT X scope ifs) (bI X scope tg1 iter1) (bG X scope tg1) (bT X scope ifs1) (bE X scope elt) (own.map (·.2)) vs1 σ S.H Q := by
  refine hi S r m σ _ sa re ?_
  unfold dComp2 at p
  cases q : t r m with
  | stuck => rw [q] at p; exact p
  | exc C fs m1 => rw [q] at p; exact p
  | ok ds m1 =>
    rw [q] at p
    intro J T st sa1 hJ Dd hD
    have pT : PostD X.K T ((dLc2 m1.length g c t1 g1 c1 b vs1 (wipeE r (own.map (·.2))) ds (m1 ++ [.lst []])).bind fun _ m2 => .ok (.loc m1.length) m2) Q (fun c d H => Fly X c d σ H) := Post.step st p
    have reW : RelE X.K T (wipeE r (own.map (·.2))) (wipe σ (own.map (·.2))) := (re.stp st).wipe _
    have stN : Stp T (T.tok Dd (.lst [])) := Stp.tok sa1 hD
    have saN : Sta X.K (T.tok Dd (.lst [])) (m1 ++ [.lst []]) := Sta.tok sa1 hD ⟨[], upd_same, .nil⟩
    have iN : (T.tok Dd (.lst [])).i[m1.length]? = some Dd := by
      show (T.i ++ [Dd])[m1.length]? = some Dd
      rw [← sa1.len, List.getElem?_append_right (Nat.le_refl _), Nat.sub_self]; rfl
    generalize m1.length = n0 at *
    refine ⟨fun i n H' => n = ds.length - i ∧ i ≤ ds.length ∧ ∃ (U : Wd) (m' : Mu), U.H = H' ∧ Stp (T.tok Dd (.lst [])) U ∧ Sta X.K U m' ∧
        PostD X.K T ((dLc2 n0 g c t1 g1 c1 b vs1 (wipeE r (own.map (·.2))) (ds.drop i) m').bind fun _ m2 => .ok (.loc n0) m2) Q (fun c d H => Fly X c d σ H),
      ⟨ds.length, by simp, Nat.zero_le _, T.tok Dd (.lst []), _, rfl, Stp.refl _, saN, pT⟩, ?_⟩
    rintro i n H' ⟨rfl, hi', U, m', rfl, stU, saU, pU⟩
    have stTU := stN.trans stU
    by_cases hlt : i < ds.length
    · refine .inr ⟨((hJ U m' i stTU saU).1 _ (List.getElem?_eq_getElem hlt)).1, fun H2 => i + 1 ≤ ds.length ∧ ∃ (U : Wd) (m' : Mu), U.H = H2 ∧ Stp (T.tok Dd (.lst [])) U ∧ Sta X.K U m' ∧
        PostD X.K T ((dLc2 n0 g c t1 g1 c1 b vs1 (wipeE r (own.map (·.2))) (ds.drop (i + 1)) m').bind fun _ m2 => .ok (.loc n0) m2) Q (fun c d H => Fly X c d σ H),
        fun H2 h2 => ⟨ds.length - (i + 1), by omega, rfl, h2.1, h2.2⟩, fun x H2 hy => ?_⟩
      obtain ⟨Y, rfl, stY, saY, rdY⟩ := ((hJ U m' i stTU saU).1 _ (List.getElem?_eq_getElem hlt)).2 x H2 hy
      rw [List.drop_eq_getElem_cons hlt] at pU
      unfold dLc2 at pU
      have stN2 := stU.trans stY
      have stT := stN.trans stN2
      cases qg : g ds[i] (wipeE r (own.map (·.2))) with
      | none => rw [qg] at pU; exact (show False from pU).elim
      | some e1 =>
        rw [qg] at pU
        dsimp only at pU
        intro s0 H0 C0 cl0 fp0
        refine hg s0 H0 C0 cl0 fp0 Y (wipeE r (own.map (·.2))) m' (wipe σ (own.map (·.2))) ds[i] x e1 _ saY (reW.stp stT) rdY qg ?_
        intro σ1 re1 bs
        refine ⟨?_, ?_⟩
        · rw [bs _ hsl]
          exact wipe_wipe _ _
        intro s0 H0 C0 cl0 fp0
        cases qc : c e1 m' with
        | stuck => rw [qc] at pU; exact (show False from pU).elim
        | exc C fs m2 => rw [qc] at pU; exact (show False from pU).elim
        | ok k m2 =>
          rw [qc] at pU
          refine ht s0 H0 C0 cl0 fp0 Y e1 m' σ1 _ saY re1 ?_
          rw [qc]
          intro k' Z stZ saZ hk
          cases (show k = k' from hk)
          have stNZ := stN2.trans stZ
          cases k with
          | false => exact iteF ⟨hlt, Z, m2, rfl, stNZ, saZ, pU⟩
          | true =>
            refine iteT ?_
            intro s0 H0 C0 cl0 fp0
            dsimp only at pU
            cases qt : t1 e1 m2 with
            | stuck => rw [qt] at pU; exact (show False from pU).elim
            | exc C fs m3 => rw [qt] at pU; exact (show False from pU).elim
            | ok ds1 m3 =>
              rw [qt] at pU
              dsimp only at pU
              refine hi1 s0 H0 C0 cl0 fp0 Z e1 m2 σ1 _ saZ (re1.stp stZ) ?_
              rw [qt]
              intro J1 T1 st1 sa2 hJ1
              have stN1 := stNZ.trans st1
              have reV : RelE X.K T1 (wipeE e1 vs1) (wipe σ1 vs1) := ((re1.stp stZ).stp st1).wipe _
              rw [resB_assoc] at pU
              refine ⟨fun j k H' => k = ds1.length - j ∧ j ≤ ds1.length ∧ ∃ (U : Wd) (m' : Mu), U.H = H' ∧ Stp T1 U ∧ Sta X.K U m' ∧
                  PostD X.K T ((dLc1 n0 g1 c1 b (wipeE e1 vs1) (ds1.drop j) m').bind fun _ m4 => (dLc2 n0 g c t1 g1 c1 b vs1 (wipeE r (own.map (·.2))) (ds.drop (i + 1)) m4).bind fun _ m2 => .ok (.loc n0) m2) Q (fun c d H => Fly X c d σ H),
                ⟨ds1.length, by simp, Nat.zero_le _, T1, m3, rfl, Stp.refl T1, sa2, pU⟩, ?_⟩
              rintro j k H'' ⟨rfl, hj', V0, n', rfl, stV0, saV0, pV⟩
              by_cases hlt1 : j < ds1.length
              · refine .inr ⟨((hJ1 V0 n' j stV0 saV0).1 _ (List.getElem?_eq_getElem hlt1)).1, fun H2 => j + 1 ≤ ds1.length ∧ ∃ (U : Wd) (m' : Mu), U.H = H2 ∧ Stp T1 U ∧ Sta X.K U m' ∧
                  PostD X.K T ((dLc1 n0 g1 c1 b (wipeE e1 vs1) (ds1.drop (j + 1)) m').bind fun _ m4 => (dLc2 n0 g c t1 g1 c1 b vs1 (wipeE r (own.map (·.2))) (ds.drop (i + 1)) m4).bind fun _ m2 => .ok (.loc n0) m2) Q (fun c d H => Fly X c d σ H),
                  fun H2 h2 => ⟨ds1.length - (j + 1), by omega, rfl, h2.1, h2.2⟩, fun x1 H3 hy1 => ?_⟩
                obtain ⟨Y1, rfl, stY1, saY1, rdY1⟩ := ((hJ1 V0 n' j stV0 saV0).1 _ (List.getElem?_eq_getElem hlt1)).2 x1 H3 hy1
                rw [List.drop_eq_getElem_cons hlt1] at pV
                unfold dLc1 at pV
                have stTY := stV0.trans stY1
                cases qg1 : g1 ds1[j] (wipeE e1 vs1) with
                | none => rw [qg1] at pV; exact (show False from pV).elim
                | some e2 =>
                  rw [qg1] at pV
                  dsimp only at pV
                  intro s0 H0 C0 cl0 fp0
                  refine hg1 s0 H0 C0 cl0 fp0 Y1 (wipeE e1 vs1) n' (wipe σ1 vs1) ds1[j] x1 e2 _ saY1 (reV.stp stTY) rdY1 qg1 ?_
                  intro σ2 re2 bs2
                  refine ⟨?_, ?_⟩
                  · rw [bs2 _ hsl1]
                    exact wipe_wipe _ _
                  intro s0 H0 C0 cl0 fp0
                  cases qc1 : c1 e2 n' with
                  | stuck => rw [qc1] at pV; exact (show False from pV).elim
                  | exc C fs m2 => rw [qc1] at pV; exact (show False from pV).elim
                  | ok k1 n2 =>
                    rw [qc1] at pV
                    refine ht1 s0 H0 C0 cl0 fp0 Y1 e2 n' σ2 _ saY1 re2 ?_
                    rw [qc1]
                    intro k2 Z1 stZ1 saZ1 hk1
                    cases (show k1 = k2 from hk1)
                    cases k1 with
                    | false => exact iteF ⟨hlt1, Z1, n2, rfl, stTY.trans stZ1, saZ1, pV⟩
                    | true =>
                      refine iteT ?_
                      intro s0 H0 C0 cl0 fp0
                      dsimp only at pV
                      cases qb : b e2 n2 with
                      | stuck => rw [qb] at pV; exact (show False from pV).elim
                      | exc C fs m3 => rw [qb] at pV; exact (show False from pV).elim
                      | ok dx n3 =>
                        rw [qb] at pV
                        refine he s0 H0 C0 cl0 fp0 Z1 e2 n2 σ2 _ saZ1 (re2.stp stZ1) ?_
                        rw [qb]
                        intro vx V1 stV saV rx
                        dsimp only at pV
                        have stW := ((stTY.trans stZ1).trans stV)
                        have iV : V1.i[n0]? = some Dd := pre_get (stN1.trans stW).pre iN
                        split at pV
                        · rename_i acc hacc
                          obtain ⟨av, w1, w2⟩ := saV.ok n0 Dd _ iV hacc
                          split at pV
                          · rename_i hlen
                            obtain ⟨sp, ss⟩ := saV.put (o := .lst (av ++ [vx])) iV (q := .lst (acc ++ [dx])) ⟨av ++ [vx], upd_same, w2.append (.cons rx .nil)⟩
                            exact ⟨av, w1, by rw [← w2.len]; exact hlen, hlt1, V1.put Dd (.lst (av ++ [vx])), _, rfl, stW.trans sp, ss, pV⟩
                          · exact (show False from pV).elim
                        · exact (show False from pV).elim
              · have ej : j = ds1.length := by omega
                subst ej
                rw [List.drop_length] at pV
                exact .inl ⟨(hJ1 V0 n' _ stV0 saV0).2 (Nat.le_refl _), hlt, V0, n', rfl, stN1.trans stV0, saV0, pV⟩
    · have e : i = ds.length := by omega
      subst e
      rw [List.drop_length] at pU
      refine .inl ⟨(hJ U m' _ stTU saU).2 (Nat.le_refl _), ?_⟩
      have pU : PostD X.K T (Res.ok (D.loc n0) m') Q (fun c d H => Fly X c d σ H) := pU
      exact pU (.ref Dd) U stTU saU (.loc (pre_get stU.pre iN))
abbrev mxBI (X : Cx) (scope : Scope) (tg iter : Expr) : ∀ s H C cl fp, PI (Bk X scope s H C cl fp) tg iter (bI X scope tg iter) := fun s H C cl fp => ⟨fun pins s1 σ H1 R I h => h s H C cl fp pins s1 I⟩
theorem pd_lc2 (hi : PDI X tg iter t) (hN : X.N.Nodup) (ok : BlkOk X.N X.env.scope scope own)
    (hg : ∀ s H C cl fp, PDG (Bk X scope s H C cl fp) tg g sl) (ht : ∀ s H C cl fp, PDTs (Bk X scope s H C cl fp) ifs c)
    (hi1 : ∀ s H C cl fp, PDI (Bk X scope s H C cl fp) tg1 iter1 t1)
    (hg1 : ∀ s H C cl fp, PDG (Bk X scope s H C cl fp) tg1 g1 sl1) (ht1 : ∀ s H C cl fp, PDTs (Bk X scope s H C cl fp) ifs1 c1)
    (he : ∀ s H C cl fp, PDE (Bk X scope s H C cl fp) elt b)
    (hc : X.calm = true) (hv : ∀ i ∈ vs1, i ∈ own.map (·.2) := by decide) (hsl : ∀ i ∈ sl, i ∈ own.map (·.2) := by decide) (hsl1 : ∀ i ∈ sl1, i ∈ vs1 := by decide)
    (hs : ∀ x, foldedSetIterable iter X.env x = pure x := by intro _; rfl) (hs1 : ∀ env x, foldedSetIterable iter1 env x = pure x := by intro _ _; rfl) :
    PDE X (.ListComp elt [⟨tg, iter, ifs, 0⟩, ⟨tg1, iter1, ifs1, 0⟩] scope pos) (dComp2 t g c t1 g1 c1 b (own.map (·.2)) vs1) :=
  pd_of (pe_lc2 hc hN (mxI X tg iter) ok hv (mxBG X scope tg) (mxBT X scope ifs) (mxBI X scope tg1 iter1) (mxBG X scope tg1) (mxBT X scope ifs1) (mxBE X scope elt) hs hs1)
    fun S r m σ Q sa re p => lc2_go hi hg ht hi1 hg1 ht1 he hsl hsl1 sa re p
theorem pds_setLc2 {i : Nat} {y : Str} {py : Pos} (hi : PDI X tg iter t) (hN : X.N.Nodup) (ok : BlkOk X.N X.env.scope scope own)
    (hg : ∀ s H C cl fp, PDG (Bk X scope s H C cl fp) tg g sl) (ht : ∀ s H C cl fp, PDTs (Bk X scope s H C cl fp) ifs c)
    (hi1 : ∀ s H C cl fp, PDI (Bk X scope s H C cl fp) tg1 iter1 t1)
    (hg1 : ∀ s H C cl fp, PDG (Bk X scope s H C cl fp) tg1 g1 sl1) (ht1 : ∀ s H C cl fp, PDTs (Bk X scope s H C cl fp) ifs1 c1)
    (he : ∀ s H C cl fp, PDE (Bk X scope s H C cl fp) elt b)
    (hc : X.calm = true) (hsw : swapsWith (.ListComp elt [⟨tg, iter, ifs, 0⟩, ⟨tg1, iter1, ifs1, 0⟩] scope pos) (some (.Name y py)) spos.line X.env = pure true) (hv : ∀ i ∈ vs1, i ∈ own.map (·.2) := by decide) (hsl : ∀ i ∈ sl, i ∈ own.map (·.2) := by decide) (hsl1 : ∀ i ∈ sl1, i ∈ vs1 := by decide)
    (hy : X.N[i]? = some y := by rfl) (hyl : X.env.scope.names.lookup y = some .local := by rfl) (hs : ∀ x, foldedSetIterable iter X.env x = pure x := by intro _; rfl) (hs1 : ∀ env x, foldedSetIterable iter1 env x = pure x := by intro _ _; rfl) :
    PDS X (.Assign [.Name y py] (.ListComp elt [⟨tg, iter, ifs, 0⟩, ⟨tg1, iter1, ifs1, 0⟩] scope pos) spos) (dSet i (dComp2 t g c t1 g1 c1 b (own.map (·.2)) vs1)) := by
  refine ps_of (ps_setLc2 hc hN hy hyl hsw (mxI X tg iter) ok hv (mxBG X scope tg) (mxBT X scope ifs) (mxBI X scope tg1 iter1) (mxBG X scope tg1) (mxBT X scope ifs1) (mxBE X scope elt) hs hs1) fun S r m σ N sa re p => ?_
  exact lc2_go hi hg ht hi1 hg1 ht1 he hsl hsl1 sa re (PDE.stm re p fun d m1 v T st sa1 rd q => q _ T (Stp.refl T) sa1 ((re.stp st).set i rd))
end
end DL

namespace DL
open PySem PySem.Spec PyProof.Rows L2
variable [LamTab]
section
variable {X : Cx} {a b c e o tg : Expr} {es : List Expr} {ta tb tc to te u : DE} {t : DA} {pos p apos : Pos} {k : Nat}
/-! ### what is never reached; one reading or another -/
theorem pd_stuckE : PDE X a (fun _ _ => .stuck) := fun S r m σ Q sa re p => p.elim
theorem pdt_stuckE : PDT X a (fun _ _ => .stuck) := fun S r m σ Q sa re p => p.elim
theorem pdi_stuckI : PDI X tg a (fun _ _ => .stuck) := fun S r m σ Q sa re p => p.elim
def orE (t u : DE) : DE := fun e m => match t e m with
  | .stuck => u e m
  | r => r
theorem pd_orE (h : PDE X a ta) (h2 : PDE X a u) : PDE X a (orE ta u) := by
  intro S r m σ Q sa re p
  unfold orE at p
  split at p
  · exact h2 S r m σ Q sa re p
  · exact h S r m σ Q sa re p
def orA (t u : DA) : DA := fun e m => match t e m with
  | .stuck => u e m
  | r => r
theorem pdi_orA {t u : DA} (h : PDI X tg a t) (h2 : PDI X tg a u) : PDI X tg a (orA t u) := by
  intro S r m σ Q sa re p
  unfold orA at p
  split at p
  · exact h2 S r m σ Q sa re p
  · exact h S r m σ Q sa re p
def orS (t u : DS) : DS := fun e m => match t e m with
  | .stuck => u e m
  | r => r
theorem pds_orS {st : Stmt} {t u : DS} (h : PDS X st t) (h2 : PDS X st u) : PDS X st (orS t u) := by
  intro S r m σ N sa re p
  unfold orS at p
  split at p
  · exact h2 S r m σ N sa re p
  · exact h S r m σ N sa re p
@[simp ↓] theorem orE_ap (t u : DE) (e : En) (m : Mu) : orE t u e m = match t e m with
  | .stuck => u e m
  | r => r := rfl
@[simp ↓] theorem orA_ap (t u : DA) (e : En) (m : Mu) : orA t u e m = match t e m with
  | .stuck => u e m
  | r => r := rfl
@[simp ↓] theorem orS_ap (t u : DS) (e : En) (m : Mu) : orS t u e m = match t e m with
  | .stuck => u e m
  | r => r := rfl
end
end DL

namespace DL
open PySem PySem.Spec PyProof.Rows L2
variable [LamTab]
section
variable {X : Cx} {a b c e o tg : Expr} {es : List Expr} {ta tb tc to te u : DE} {t : DA} {pos p apos cpos : Pos} {k : Nat}
theorem Reps.reverse {K : PySem.W.Frag} {ι : List Addr} {F : Hp} {ds : List D} {vs : List V} (r : Reps K ι F ds vs) : Reps K ι F ds.reverse vs.reverse := by
  match r with
  | .nil => exact .nil
  | .cons h r' => rw [List.reverse_cons, List.reverse_cons]; exact (Reps.reverse r').append (.cons h .nil)
/-! ### xs[::-1] -/
def dRev (t : DE) : DE := fun e m => (t e m).bind fun d m1 => match seqL m1 d with
  | some ds => .ok (.lst ds.reverse) m1
  | none => .stuck
@[simp ↓] theorem dRev_ap (t : DE) (e : En) (m : Mu) : dRev t e m = (t e m).bind fun d m1 => match seqL m1 d with
  | some ds => .ok (.lst ds.reverse) m1
  | none => .stuck := rfl
theorem pd_rev {k : Nat} {p1 p2 p3 : Pos} (ha : PDE X a ta) : PDE X (.Subscript a (.Slice none none (some (.UnaryOp .USub (.Constant (.int 1) k p1) p2)) p3) pos) (dRev ta) := by
  refine pd_of (pe_revL (mxE X a)) fun S r m σ Q sa re p => ?_
  refine ha S r m σ _ sa re (Post.bindI p fun d m1 v T st sa1 rd q => ?_)
  split at q
  · rename_i ds e1
    obtain ⟨ad, xs, rfl, h1, r1⟩ := seqL_ok sa1 rd e1
    refine ⟨ad, xs, rfl, h1, fun p' hp => ?_⟩
    have st1 := Stp.new sa1 (o := .lst xs.reverse) hp
    exact q (.ref p') (T.new p' (.lst xs.reverse)) st1 (sa1.new hp) (.lst (.inl (.inl upd_same)) ((r1.reverse).stp st1))
  · exact q.elim
/-! ### methods of lists and texts that change nothing -/
/-- what a method's answer must bear -/
def BmOk (K : PySem.W.Frag) (f : D → List D → Mu → Res D) (rr : V → List V → Hp → VK → Prop) : Prop :=
  ∀ (S : Wd) (m : Mu) (d : D) (ds : List D) (v : V) (vs : List V) (Q : VK) (W : XK), Sta K S m → Rep K S.i S.F d v → Reps K S.i S.F ds vs → PostD K S (f d ds m) Q W → rr v vs S.H Q
/-- o.name(..), o a list -/
def dBmL (f : D → List D → Mu → Res D) (to : DE) (t : DA) : DE := fun e m => (to e m).bind fun o m1 => match seqL m1 o with
  | some _ => (t e m1).bind fun ds m2 => f o ds m2
  | none => .stuck
@[simp ↓] theorem dBmL_ap (f : D → List D → Mu → Res D) (to : DE) (t : DA) (e : En) (m : Mu) : dBmL f to t e m = (to e m).bind fun o m1 => match seqL m1 o with
  | some _ => (t e m1).bind fun ds m2 => f o ds m2
  | none => .stuck := rfl
theorem pd_bmL {f : D → List D → Mu → Res D} {rr : V → List V → Hp → VK → Prop} {name : Str} {id : String} (slot : Slot "list" name id) (hty : typeOf (.builtin id) = pure (.type "method_descriptor")) (hr : MtR X id rr) (hm : BmOk X.K f rr) (ho : PDE X o to) (ha : PDA X (e :: es) t)
    (hbase : attributeBase o name X.env (eval o X.env) = eval o X.env := by rfl)
    (hfew : ((backTo cpos (starEach (e :: es) X.env)).all (fun x => !x.1) && (backToKw cpos (keywordEach [] X.env)).all (fun x => x.1.isSome)
      && decide ((e :: es).length + ([] : List Keyword).length + (if ([] : List Keyword).isEmpty then 0 else 1) < 30)) = true := by rfl)
    (hline : (apos.endLine == cpos.line) = true := by rfl) (hs : starEach (e :: es) X.env = (false, eval e X.env) :: starEach es X.env := by exact se_cons _ _ _ rfl) (hplain : (backTo cpos (starEach es X.env)).any (·.1) = false := by rfl) :
    PDE X (.Call (.Attribute o name apos) (e :: es) [] cpos) (dBmL f to t) := by
  refine pd_of (pe_bm PySem.F.plainAttrs_list slot hty hr (mxE X o) (mxA X _) hbase hfew hline hs hplain) fun S r m σ Q sa re p => ?_
  refine ho S r m σ _ sa re (Post.bindI p fun od m1 v T st sa1 rd q => ?_)
  split at q
  · rename_i ds e1
    obtain ⟨ad, xs, rfl, h1, r1⟩ := seqL_ok sa1 rd e1
    refine ⟨.inl ⟨rfl, xs, h1⟩, ?_⟩
    refine ha T r m1 σ _ sa1 (re.stp st) (Post.bindI q fun ds m2 us U st2 sa2 rds q2 => ?_)
    exact hm U m2 od ds (.ref ad) us Q _ sa2 (rd.stp st2) rds q2
  · exact q.elim
def findV (y : V) : List V → Option Nat
  | [] => none
  | x :: xs => if eqV x y then some 0 else (findV y xs).map (· + 1)
theorem findV_ok {y : V} : ∀ {xs : List V} {j : Nat}, findV y xs = some j → (∃ z, xs[j]? = some z ∧ eqV z y = true) ∧ ∀ (i : Nat) (z : V), i < j → xs[i]? = some z → eqV z y = false
  | [], _, h => by cases h
  | x :: xs, j, h => by
    unfold findV at h
    split at h
    · rename_i hx
      cases h
      exact ⟨⟨x, rfl, hx⟩, fun i z hi => by omega⟩
    · rename_i hx
      cases q : findV y xs with
      | none => rw [q] at h; cases h
      | some k =>
        rw [q] at h
        cases h
        obtain ⟨h1, h2⟩ := findV_ok q
        refine ⟨h1, fun i z hi hz => ?_⟩
        cases i with
        | zero => simp at hz; subst hz; simpa using hx
        | succ i => exact h2 i z (Nat.lt_of_succ_lt_succ hi) (by simpa using hz)
/-- xs.index(y), plain values -/
def fIndex : D → List D → Mu → Res D := fun d ds m => match ds with
  | [y] => match toV y, (seqL m d).bind toVs with
    | some v, some vs => match findV v vs with
      | some j => .ok (.int j) m
      | none => .stuck
    | _, _ => .stuck
  | _ => .stuck
theorem toVs_flat {ds : List D} {vs : List V} {K : PySem.W.Frag} {i : List Addr} {F : Hp} {xs : List V} (r : Reps K i F ds xs) (h : toVs ds = some vs) : xs = vs ∧ vs.all flatV = true := toVs_ok r h
theorem ok_index {K : PySem.W.Frag} : BmOk K fIndex (rIndex K) := by
  intro S m d ds v vs Q W sa rd rds p
  unfold fIndex at p
  split at p
  · rename_i y
    obtain ⟨vy, rfl, ry⟩ := reps1 rds
    split at p
    · rename_i v1 vs1 e1 e2
      cases q : seqL m d with
      | none => rw [q] at e2; cases e2
      | some es =>
        rw [q] at e2
        obtain ⟨ad, xs, rfl, h1, r1⟩ := seqL_ok sa rd q
        obtain ⟨rfl, fl⟩ := toVs_ok r1 (show toVs es = some vs1 from e2)
        obtain ⟨rfl, fy⟩ := toV_ok ry e1
        split at p
        · rename_i j hj
          obtain ⟨⟨z, z1, z2⟩, z3⟩ := findV_ok hj
          exact ⟨ad, _, _, j, z, rfl, rfl, h1, fy, fl, z1, z2, z3, Post.ok p (Stp.refl S) sa (.int _)⟩
        · exact p.elim
    · exact p.elim
  · exact p.elim
theorem pd_index (ho : PDE X o to) (ha : PDA X [e] t) (hbase : attributeBase o "index" X.env (eval o X.env) = eval o X.env := by rfl)
    (hfew : ((backTo cpos (starEach [e] X.env)).all (fun x => !x.1) && (backToKw cpos (keywordEach [] X.env)).all (fun x => x.1.isSome)
      && decide ([e].length + ([] : List Keyword).length + (if ([] : List Keyword).isEmpty then 0 else 1) < 30)) = true := by rfl)
    (hline : (apos.endLine == cpos.line) = true := by rfl) (hs : starEach [e] X.env = (false, eval e X.env) :: starEach [] X.env := by rfl) (hplain : (backTo cpos (starEach [] X.env)).any (·.1) = false := by rfl) :
    PDE X (.Call (.Attribute o "index" apos) [e] [] cpos) (dBmL fIndex to t) := pd_bmL PySem.F.slot_list_index PySem.F.type_list_index mt_index ok_index ho ha hbase hfew hline hs hplain
/-! ### [..] * int -/
def dLstRep (t : DA) (tb : DE) : DE := fun e m => (dLst t e m).bind fun x m1 => (tb e m1).bind fun d m2 => match x, d with
  | .lst ds, .int k => if 0 ≤ k ∧ k < 2 ^ 62 ∧ ds.length * k.toNat ≤ sizeLine then .ok (.lst (List.replicate k.toNat ds).flatten) m2 else .stuck
  | _, _ => .stuck
@[simp ↓] theorem dLstRep_ap (t : DA) (tb : DE) (e : En) (m : Mu) : dLstRep t tb e m = (dLst t e m).bind fun x m1 => (tb e m1).bind fun d m2 => match x, d with
  | .lst ds, .int k => if 0 ≤ k ∧ k < 2 ^ 62 ∧ ds.length * k.toNat ≤ sizeLine then .ok (.lst (List.replicate k.toNat ds).flatten) m2 else .stuck
  | _, _ => .stuck := rfl
theorem Reps.rep {K : PySem.W.Frag} {ι : List Addr} {F : Hp} {ds : List D} {vs : List V} (r : Reps K ι F ds vs) : ∀ n : Nat, Reps K ι F (List.replicate n ds).flatten (List.replicate n vs).flatten
  | 0 => .nil
  | n + 1 => by rw [List.replicate_succ, List.replicate_succ, List.flatten_cons, List.flatten_cons]; exact r.append (Reps.rep r n)
theorem pd_lstRep {lpos : Pos} (ha : PDA X es t) (hb : PDE X b tb) : PDE X (.BinOp (.List es lpos) .Mult b pos) (dLstRep t tb) := by
  refine pd_of (pe_op op_rep (pe_lst (mxA X es)) (mxE X b)) fun S r m σ Q sa re p => ?_
  unfold dLstRep dLst at p
  rw [resB_assoc] at p
  refine ha S r m σ _ sa re (Post.bindI p fun ds m1 xs T st sa1 rd q => ?_)
  split at q
  · rename_i hl
    refine ⟨by rw [← rd.len]; exact hl, fun p' hp => ?_⟩
    have st1 := Stp.new sa1 (o := .lst xs) hp
    refine hb (T.new p' (.lst xs)) r m1 σ _ (sa1.new hp) ((re.stp st).stp st1) (Post.bindI (Post.step st1 q) fun d m2 v U st2 sa2 rv q2 => ?_)
    cases rv with
    | int k =>
      dsimp only at q2
      split at q2
      · rename_i hk
        have h1 : U.H p' = some (.lst xs) := sa2.sub _ _ (st2.ext _ _ (upd_same))
        refine ⟨p', k, xs, rfl, rfl, h1, by omega, by omega, by rw [← rd.len]; exact hk.2.2, fun p2 hp2 => ?_⟩
        have st3 := Stp.new sa2 (o := .lst (List.replicate k.toNat xs).flatten) hp2
        exact q2 (.ref p2) (U.new p2 _) st3 (sa2.new hp2) (.lst (.inl (.inl upd_same)) ((((rd.stp st1).stp st2).rep _).stp st3))
      · exact q2.elim
    | _ => exact (show False from q2).elim
  · exact q.elim
end
end DL

namespace DL
open PySem PySem.Spec PySem.Calls PyProof.Rows L2
variable [LamTab]
/-! ### bool(x) of own classes -/
section
variable {prog : Program} {w : World} {A : Around} {E : Value → Shared → Prop} {s : Shared} {x : Addr}
theorem bool_call {Q : Value → Shared → Prop} (h : wpAny (model prog w) A.in1.in1 (truthy (.ref x)) (fun b s1 => Q (.bool b) s1) E s) : wpAny (model prog w) A (call (.type "bool") [.ref x]) Q E s := by
  refine callType_codes (T := "bool") (Bi := Builtin.«object.__init__») (Q₁ := fun r s₁ => ∃ b, r = .bool b ∧ Q r s₁) PySem.F.called_bool (PySem.F.typeCall_bool_1 _) PySem.F.entry_object_init ?_ ?_
  · refine codeAny_of_tree ?_
    show wpAny _ A.in1.in1 (do checkBuiltinCall "bool.__new__" ⟨[.type "bool", .ref x], []⟩; again (.builtin "bool.__new__" ⟨[.type "bool", .ref x], []⟩)) _ _ s
    refine wpAny_bind (wpAny_of_eq (PySem.F.newCall_bool_1 _) (wpAny_pure ⟨plainId_quiet (by decide +kernel) _, codeAny_builtin PySem.F.entry_bool_new ?_⟩))
    rw [Around.under_plainId (by decide +kernel) _]
    unfold Builtin.«bool.__new__»
    refine wpAny_bind (wpAny_pure ?_)
    refine wpAny_bind (wpAny_of_eq PySem.F.conv_sub_bool ?_)
    show wpAny _ _ (do match ← someArgs "bool" 0 1 { pos := [Value.ref x] } with
      | x :: tail => do
        let b ← truthy x
        ret (Value.bool b)
      | [] => ret (Value.bool false)) _ _ _
    refine wpAny_bind (wpAny_pure ?_)
    refine wpAny_bind (wpAny_mono h (fun b s1 hb => wpAny_pure ⟨b, rfl, hb⟩) fun _ _ y => y)
  · rintro obj s₁ ⟨b, rfl, hq⟩
    exact ⟨rfl, PySem.F.args_object_init_2 _ _, object_init_meets PySem.F.called_bool.init.lookup PySem.F.called_bool.made (by decide) prog w A.in1 _ s₁ ⟨rfl, rfl, hq⟩⟩
end
section
variable {X : Cx} {a b c e o tg : Expr} {es : List Expr} {ta tb tc te to u : DE} {t : DA} {pos p apos cpos : Pos} {k : Nat} {x mn : Str} {G : DFn}
def dBoolO (rows : List (Kl × DFn)) : DFn := fun ds m => match ds with
  | [x] => match insOf m x with
    | some (C, ns, _) => match methAt rows C ns with
      | some G => (G [x] m).bind fun r m1 => match r with
        | .bl n => .ok (.bl n) m1
        | _ => .stuck
      | none => .stuck
    | none => .stuck
  | _ => .stuck
theorem oc_boolO {rows : List (Kl × DFn)} (hrows : ∀ r ∈ rows, MRow X.prog X.w X.K X.mg X.base k "__bool__" r.1 r.2) (hr : Room (k + 2) X.A) : OC X (.type "bool") (dBoolO rows) := by
  intro pins s σ S m ds xs us Q sa r rv I p
  match ds, xs, us, r, rv with
  | [x], [vx], [u], .cons rx .nil, .cons hu .nil =>
    unfold dBoolO at p
    dsimp only at p
    split at p
    · rename_i C ns ds ei
      split at p
      · rename_i G eG
        obtain ⟨c, ok, rfl, rfl⟩ := methAt_ok (P := MRow X.prog X.w X.K X.mg X.base k "__bool__") hrows eG
        obtain ⟨a, dx, vs, rfl, h1, h2, h3⟩ := insOf_ok sa rx ei
        obtain ⟨f, fd, ps, dds, G0, hf1, hf2, hk, hf, hb, rfl⟩ := ok.ex
        obtain rfl : u = Value.ref a := hu
        obtain ⟨od1, J1⟩ := Inv.inst I h1
        obtain ⟨mm, F⟩ := I.fr
        refine bool_call (PySem.W.truthy_K F I.ok.mod.kin J1 hf1 hf2 (thn (run_fnA (us := [.ref a]) (Q := fun v H => ∃ b, v = .bl b ∧ Q (.bl b) H) hf hr.in1.in1 hb rfl I sa (.cons rx .nil) (.cons rfl .nil) (Post.bindI p fun r m2 v U st2 sa2 rv q2 => ?_)) fun v s1 h => ?_))
        · cases rv with
          | bl b => exact ⟨b, rfl, Post.ok q2 (Stp.refl U) sa2 (.bl b)⟩
          | _ => exact (show False from q2).elim
        · obtain ⟨y, H, I', r, b, rfl, q⟩ := h
          cases r
          exact ⟨.bl b, H, I', rfl, q⟩
      · exact (show False from p).elim
    · exact (show False from p).elim
  | [], _, _, _, _ => exact p.elim
  | _ :: _ :: _, _, _, _, _ => exact p.elim
/-! ### `is` of two truth values -/
def gIsB : D2 := fun x y m => match x, y with
  | .bl a, .bl b => .ok (.bl (decide (a = b))) m
  | _, _ => .stuck
def gNotB : D2 := fun x y m => match x, y with
  | .bl a, .bl b => .ok (.bl (!decide (a = b))) m
  | _, _ => .stuck
theorem od_isB : OD X (compareOp .Is) gIsB := by
  refine od_of op_isBl fun S m x y vx vy Q W sa rx ry p => ?_
  cases rx with
  | bl a =>
    cases ry with
    | bl b => exact ⟨a, b, rfl, rfl, Post.ok p (Stp.refl S) sa (.bl _)⟩
    | _ => exact (show False from p).elim
  | _ => exact (show False from p).elim
theorem od_notB : OD X (compareOp .IsNot) gNotB := by
  refine od_of op_notBl fun S m x y vx vy Q W sa rx ry p => ?_
  cases rx with
  | bl a =>
    cases ry with
    | bl b => exact ⟨a, b, rfl, rfl, Post.ok p (Stp.refl S) sa (.bl _)⟩
    | _ => exact (show False from p).elim
  | _ => exact (show False from p).elim
/-! ### *xs in a display or an argument list -/
def dStar (te : DE) (t : DA) : DA := fun e m => (te e m).bind fun d m1 => match seqA m1 d with
  | some ds => (t e m1).bind fun es m2 => .ok (ds ++ es) m2
  | none => .stuck
@[simp ↓] theorem dStar_ap (te : DE) (t : DA) (e : En) (m : Mu) : dStar te t e m = (te e m).bind fun d m1 => match seqA m1 d with
  | some ds => (t e m1).bind fun es m2 => .ok (ds ++ es) m2
  | none => .stuck := rfl
theorem pda_star (he : PDE X e te) (hr : PDA X es t) : PDA X (.Starred e p :: es) (dStar te t) := by
  refine pa_of (StX.pa_star (mxE X e) (mxA X es)) fun S r m σ Q sa re q => ?_
  refine he S r m σ _ sa re (Post.bindI q fun d m1 v T st sa1 rd q1 => ?_)
  split at q1
  · rename_i ds e1
    obtain ⟨a, xs, rfl, h1, h2⟩ := seqA_ok sa1 rd e1
    refine ⟨a, xs, rfl, h1.symm, ?_⟩
    refine hr T r m1 σ _ sa1 (re.stp st) (Post.bindI q1 fun ds2 m2 vs U st2 sa2 rds q2 => ?_)
    exact Post.ok q2 (Stp.refl U) sa2 ((h2.stp st2).append rds)
  · exact q1.elim
end
/-! ### defs with a star parameter -/
def spS (K : PySem.W.Frag) (F : DFn) : Sp := fun vs H Q E => ∃ (S : Wd) (m : Mu) (ds : List D), S.H = H ∧ Sta K S m ∧ Reps K S.i S.F ds vs ∧ PostD K S (F ds m) Q E
/-- the items beyond the first n are a tuple -/
def dRest (n : Nat) (F : DFn) : DFn := fun ds m => if n ≤ ds.length ∧ (ds.drop n).length ≤ sizeLine then F (ds.take n ++ [.tup (ds.drop n)]) m else .stuck
section
variable (P : Program) (w : World) (K : PySem.W.Frag) (mg : Str → Option Value) (base : Heap)
abbrev FnS (k : Nat) (f : Addr) (G : DFn) : Prop := FnR P w K mg base (L2.CX P w) k f (spS K G)
/-- a def with a star parameter by its global name -/
structure FSt (k : Nat) (x : Str) (G : DFn) : Prop where
  ex : ∃ (f : Addr), mg x = some (.ref f) ∧ PySem.W.keepIn K (.ref f) = true ∧ FnS P w K mg base k f G
end
section
variable {P : Program} {w : World} {K : PySem.W.Frag} {mg : Str → Option Value} {base : Heap}
theorem fnSt_of {x qual pv : Str} {params : Arguments} {body : List Stmt} {scope : Scope} {kws : List (Str × V)} {f : Addr} {fd : FuncData} {N ps : List Str} {k : Nat} {t : DS} (F : FunD K x qual params body scope [] kws f fd) (S : FnScope N (ps ++ [pv]) scope)
    (hb : ∀ (kV doc pm : Value) (an : Option Addr) (cdv ct : Value) (us rest : List Value), us.length = ps.length → bindArgs (PySem.W.fnOf x qual params body scope .none kV doc pm an cdv ct) ⟨us ++ rest, []⟩ = (newTuple rest >>= fun t => pure (ps.zip us ++ [(pv, t)])))
    (h : ∀ (cdv : Value) (A : Around) (outer : List Env) (s : Shared) (H : Hp) (E : XK), Room k (A.deeper (envOfC qual scope s.heap.objs.size f cdv)) → PDSs (cxOf (L2.CX P w) P w K mg base N qual scope f cdv A outer s H E) body t) :
    FnS P w K mg base (k + 1) f (dRest ps.length (dFn N.length t)) := by
  obtain ⟨oc, od, dV, kV, doc, pm, an, cdv, ct, osl, rfl, lk, hcd, hD, hK⟩ := F.ex
  obtain rfl := dfl_nil hD
  have z := StX.fn_star (P := P) (w := w) (mg := mg) (base := base) (CX := L2.CX P w) (k := k) (sp := spD K (ps.length + 1) (dFn N.length t)) lk hcd S StX.cxUp (hb kV doc pm an cdv ct) (fun A outer s H vs Q E hr hsp => ⟨_, mxSs _ body, by
    obtain ⟨_, T, m, ds, rfl, sa, rd, p⟩ := hsp
    refine h cdv A outer s T.H E hr T (env0 N.length ds) m (L2.start N vs) _ sa (relE_start rd) ?_
    have tk : Takes (cxOf (L2.CX P w) P w K mg base N qual scope f cdv A outer s T.H E) (fun cls d _ H => E cls d H) := takes_of rfl rfl rfl rfl
    unfold dFn at p
    cases q : t (env0 N.length ds) m with
    | stuck => rw [q] at p; exact p.elim
    | nx e m1 => rw [q] at p; exact fun σ U st sa1 re => p .non U st sa1 .non
    | rt d m1 => rw [q] at p; exact fun v U st sa1 r1 => p v U st sa1 r1
    | bk e m1 => rw [q] at p; exact p.elim
    | ct e m1 => rw [q] at p; exact p.elim
    | exc C fs e m1 => rw [q] at p; exact fun dd vs σ U st hn sa1 re h1 h2 => Fly.of tk (p dd vs U st hn sa1 h1 h2)⟩)
  intro A outer s H us vs Q E hr e0 r hsp
  refine z A outer s H us vs Q E hr e0 r ?_
  obtain ⟨T, m, ds, rfl, sa, rd, p⟩ := hsp
  unfold dRest at p
  split at p
  · rename_i hl
    have hl2 := rd.len
    refine ⟨vs.take ps.length, vs.drop ps.length, (List.take_append_drop _ _).symm, by rw [List.length_take]; omega, by rw [List.length_drop, ← hl2, ← List.length_drop]; exact hl.2, fun q hq => ?_⟩
    have st := Stp.new sa (o := .tup (vs.drop ps.length)) hq
    refine ⟨by rw [List.length_append, List.length_take]; simp only [List.length_singleton]; omega, T.new q (.tup (vs.drop ps.length)), m, _, rfl, sa.new hq, ((rd.take _).stp st).append (.cons (.tup (.inl (.inl upd_same)) ((rd.drop _).stp st)) .nil), p.step st⟩
  · exact p.elim
end
section
variable {X : Cx} {a b c e o tg : Expr} {es : List Expr} {ta tb tc te to u : DE} {t : DA} {pos p p2 apos cpos : Pos} {k : Nat} {x mn : Str} {G : DFn} {f : Addr}
theorem run_fnSt {A : Around} {pins : List (Addr × Obj)} {σ : L2.St} {S : Wd} {m : Mu} {s : Shared} {Q : VK} {us : List Value} {vs : List V} {das : List D} (F : FnS X.prog X.w X.K X.mg X.base k f G) (hr : Room k A)
    (hA : A.frames = X.A.frames) (I : Inv X pins σ S.H s) (sa : Sta X.K S m) (r : Reps X.K S.i S.F das vs) (rv : Vals vs us) (h : PostD X.K S (G das m) Q (fun c d H => Fly X c d σ H)) : wpAny (model X.prog X.w) A (call (.ref f) us) (EP X pins σ Q) X.xe s := by
  have e0 := I.env0
  have e1 : Env0 X.prog X.w X.K X.mg X.base A X.stack s S.H := ⟨hA.trans e0.frames, e0.mod, e0.bs, e0.bsz, e0.funs, e0.frf, e0.hok, e0.bare⟩
  refine wpAny_call (codeAny_mono (F A X.stack s S.H us vs Q (fun c d H => Fly X c d σ H) hr e1 rv ⟨S, m, _, rfl, sa, r, h⟩) fun r s' hq => ?_)
  cases r with
  | error e =>
    obtain ⟨a, B, sI, pins', σ', H', cls, d, e1, I', nb, up, sky, na, os, ag, e2, fl⟩ := XE.of_call I (W := fun c d σ' H => σ' = σ ∧ Fly X c d σ H) (fun cls d H' h => ⟨rfl, h⟩) hq
    exact fl e s' ⟨a, B, sI, pins', σ', H', cls, d, e1, I', nb, up, sky, na, os, ag, rfl, rfl, e2, rfl⟩
  | ok fl =>
    cases fl with
    | ret u => exact I.after hq
    | next => exact False.elim hq
    | brk => exact False.elim hq
    | cont => exact False.elim hq
/-- x(a, ..), x a def with a star parameter -/
theorem pd_funS (F : FSt X.prog X.w X.K X.mg X.base k x G) (hr : Room k X.A) (ha : PDA X (e :: es) t)
    (hg : Gl X x := by rfl) (hdb : (x == ("__debug__" : Str)) = false := by decide) (he : starEach (e :: es) X.env = (false, eval e X.env) :: starEach es X.env := by exact se_cons _ _ _ rfl) (hpl : (backTo pos (starEach es X.env)).any (·.1) = false := by exact se_any _ _ _ rfl) :
    PDE X (.Call (.Name x p) (e :: es) [] pos) (dFun G t) := by
  obtain ⟨f, hm, hk, hf⟩ := F.ex
  intro S r m σ Q sa re q pins s I
  refine wpAny_Call_Name_kw (ld_glob I hg hm ?_ hdb)
  refine PySem.W.callWith_K (h₀ := X.base) I.ok.mod.kin hk (thn (ha.run sa re q I pos) ?_) he hpl
  rintro us s1 ⟨xs, ds, m1, T, st, sa1, rds, rv, I1, q1⟩
  exact ⟨I1.kIn, run_fnSt hf hr rfl I1 sa1 rds rv q1⟩
theorem pd_funS0 (F : FSt X.prog X.w X.K X.mg X.base k x G) (hr : Room k X.A)
    (hg : Gl X x := by rfl) (hdb : (x == ("__debug__" : Str)) = false := by decide) : PDE X (.Call (.Name x p) [] [] pos) (dFun G dNil) := by
  obtain ⟨f, hm, hk, hf⟩ := F.ex
  intro S r m σ Q sa re q pins s I
  refine wpAny_Call_Name_kw (ld_glob I hg hm ?_ hdb)
  exact PySem.W.callWith_K0 I.kIn hk (run_fnSt (us := []) hf hr rfl I sa .nil .nil q)
/-- x(*ys) -/
theorem pd_funS1 (F : FSt X.prog X.w X.K X.mg X.base k x G) (hr : Room k X.A) (he : PDE X e te)
    (hg : Gl X x := by rfl) (hdb : (x == ("__debug__" : Str)) = false := by decide) (hst : starEach [.Starred e p2] X.env = [(true, eval e X.env)] := by rfl) :
    PDE X (.Call (.Name x p) [.Starred e p2] [] pos) (dFun G (dStar te dNil)) := by
  obtain ⟨f, hm, hk, hf⟩ := F.ex
  intro S r m σ Q sa re q pins s I
  refine wpAny_Call_Name_kw (ld_glob I hg hm ?_ hdb)
  unfold dFun dStar at q
  rw [resB_assoc] at q
  refine PySem.W.callWith_S (h₀ := X.base) I.ok.mod.kin hk (thn (he.run sa re q I) ?_) hst
  rintro u s1 ⟨y, d, m1, T, st, sa1, rd, rx, I1, q1⟩
  split at q1
  · rename_i ds e1
    obtain ⟨a, xs, rfl, h1, h2⟩ := seqA_ok sa1 rd e1
    obtain rfl : u = Value.ref a := rx
    refine StX.star_any I1 h1.symm fun us s2 I2 rv => ⟨I2.kIn, ?_⟩
    exact run_fnSt (us := us) hf hr rfl I2 sa1 h2 rv (by simpa [dNil, Res.bind] using q1)
  · exact (show False from q1).elim
end
end DL

namespace DL
open PySem PySem.Spec PySem.Calls PyProof.Rows L2
variable [LamTab]
section
variable {P : Program} {w : World} {K : PySem.W.Frag} {mg : Str → Option Value} {base : Heap}
/-- a plain def with its defaults is one of any number of arguments -/
theorem FnD.star {k : Nat} {f : Addr} {fd : FuncData} {ps : List Str} {G : DFn} {dds : List D} (F : FnD P w K mg base k f fd ps G) (hb : Bd K fd ps dds) : FnS P w K mg base k f (padF ps.length dds G) := by
  obtain ⟨ds, dvs, hb, hd, hD⟩ := hb.ex
  refine (F.raw hb hd).imp fun vs H Q E h => ?_
  obtain ⟨S, m, das, rfl, sa, r, p⟩ := h
  unfold padF at p
  split at p
  · rename_i hl
    have r1 : Reps K S.i S.F (das ++ dds) (vs ++ dvs) := r.append (hD _ _)
    exact ⟨by rw [← r1.len]; exact hl, S, m, _, rfl, sa, r1, p⟩
  · exact p.elim
end
/-- keywords, where there are defaults -/
theorem bkD {K : PySem.W.Frag} {x qual : Str} {params : Arguments} {body : List Stmt} {scope : Scope} {dvs : List V} {kws : List (Str × V)} {f : Addr} {fd : FuncData} {ps : List Str} (F : FunD K x qual params body scope dvs kws f fd) (n : Nat) (ks : List Str) (pl : List Nat) {dds : List D} (hd : dvs ≠ []) (hD : ∀ (i : List Addr) (F : Hp), Reps K i F dds dvs)
    (h : ∀ (T : Addr) (kV doc pm : Value) (an : Option Addr) (cdv ct : Value) (us ws its : List Value), us.length = n → ws.length = ks.length → its.length = dvs.length →
      ∃ k, bindArgs (PySem.W.fnOf x qual params body scope (.ref T) kV doc pm an cdv ct) ⟨us, ks.zip ws⟩ = seqItems? (.ref T) >>= k ∧ k (some its.toArray) = pure (ps.zip (pl.filterMap fun i => (us ++ ws ++ its)[i]?)) ∧ (pl.filterMap fun i => (us ++ ws ++ its)[i]?).length = ps.length) : BK K fd ps n ks pl dds := by
  obtain ⟨oc, od, dV, kV, doc, pm, an, cdv, ct, osl, rfl, lk, hcd, hV, hK⟩ := F.ex
  rcases hV with ⟨e, _⟩ | ⟨_, T, o, its, m, rfl, lT, oT, rT⟩
  · exact absurd e hd
  · refine ⟨its, dvs, rT, hD, fun s us ws X l1 l2 => ?_⟩
    obtain ⟨k, e1, e2, e3⟩ := h T kV doc pm an cdv ct us ws its l1 l2 rT.length.symm
    refine ⟨BindsTo.of_looks fun M => ?_, e3⟩
    rw [e1]
    exact looks_items X lT oT (.of_pure e2)
section
variable (P : Program) (w : World) (K : PySem.W.Frag) (mg : Str → Option Value) (base : Heap)
/-- x.mn, x a class, mn a classmethod of it -/
structure CMt (k : Nat) (x mn : Str) (G : DFn) : Prop where
  ex : ∃ (C pp g : Addr) (G0 : DFn), mg x = some (.ref C) ∧ ClX.CRead K C (.type "type") ∧ ClX.CMet K C (.type "type") mn pp g ∧ FnS P w K mg base k g G0 ∧ G = fun ds => G0 (.val (.ref C) :: ds)
end
section
variable {X : Cx} {a b c e o tg : Expr} {es : List Expr} {ta tb tc te to u : DE} {t : DA} {pos p p2 apos cpos : Pos} {k : Nat} {x mn : Str} {G : DFn} {f C : Addr}
/-- the call of a classmethod's record -/
theorem run_cmS {pins : List (Addr × Obj)} {σ : L2.St} {S : Wd} {m : Mu} {s : Shared} {Q : VK} {us : List Value} {vs : List V} {das : List D} {q g : Addr} (F : FnS X.prog X.w X.K X.mg X.base k g G) (hr : Room k X.A)
    (I : Inv X ((q, PySem.W.methodObj (.ref g) (.ref C)) :: pins) σ S.H s) (sa : Sta X.K S m) (r : Reps X.K S.i S.F das vs) (rv : Vals vs us) (h : PostD X.K S (G (.val (.ref C) :: das) m) Q (fun c d H => Fly X c d σ H)) :
    wpAny (model X.prog X.w) X.A (call (.ref q) us) (EP X pins σ Q) X.xe s := by
  have z : wpAny (model X.prog X.w) X.A (call (.ref q) us) (EP X ((q, PySem.W.methodObj (.ref g) (.ref C)) :: pins) σ Q) X.xe s := by
    refine wpAny_call (PySem.W.method_call (ClX.pin_at I) (codeAny_mono (F X.A X.stack s S.H (.ref C :: us) (.ref C :: vs) Q (fun c d H => Fly X c d σ H) hr I.env0 (.cons rfl rv) ⟨S, m, _, rfl, sa, .cons (.val _) r, h⟩) fun r s' hq => ?_))
    cases r with
    | error e =>
      obtain ⟨a, B, sI, pins', σ', H', cls, d, e1, I', nb, up, sky, na, os, ag, e2, fl⟩ := XE.of_call I (W := fun c d σ' H => σ' = σ ∧ Fly X c d σ H) (fun cls d H' h => ⟨rfl, h⟩) hq
      exact fl e s' ⟨a, B, sI, pins', σ', H', cls, d, e1, I', nb, up, sky, na, os, ag, rfl, rfl, e2, rfl⟩
    | ok fl =>
      cases fl with
      | ret u => exact I.after hq
      | next => exact False.elim hq
      | brk => exact False.elim hq
      | cont => exact False.elim hq
  exact thn z fun _ _ y => ClX.unpinE y
theorem pd_cmeth {pl : Sem Bool} (F : CMt X.prog X.w X.K X.mg X.base k x mn G) (hr : Room k X.A) (ha : PDA X (e :: es) t)
    (hg : Gl X x := by rfl) (hdb : (x == ("__debug__" : Str)) = false := by decide)
    (hst : starEach (e :: es) X.env = (false, eval e X.env) :: starEach es X.env := by exact se_cons _ _ _ rfl) (hpl : (backTo pos (starEach es X.env)).any (·.1) = false := by exact se_any _ _ _ rfl)
    (ht : eval (.Call (.Attribute (.Name x p2) mn apos) (e :: es) [] pos) X.env = (do
      let ov ← eval (.Name x p2) X.env
      standAt apos.atName
      let (f, first) ← holding [ov] (getMethod ov mn pl)
      callWith pos f first (backTo pos (starEach (e :: es) X.env)) (backToKw pos (keywordEach [] X.env))) := by rfl) :
    PDE X (.Call (.Attribute (.Name x p2) mn apos) (e :: es) [] pos) (dFun G t) := by
  obtain ⟨C, pp, g, G0, hm, r1, c1, hf, rfl⟩ := F.ex
  intro S r m σ Q sa re q pins s I
  refine PySem.W.methodCall_KW (pl := pl) (ld_glob I hg hm ?_ hdb) ht
  refine ClX.getmethcm_ok I r1 c1 fun s2 I2 => ?_
  refine ClX.callwith_cm I2 (ClX.base_none I (Nat.le_refl _)) c1.fi (thn (ha.run sa re q I2 pos) ?_) hst hpl
  rintro us s3 ⟨xs, das, m2, U, st2, sa2, rds, rv, I3, q2⟩
  exact ⟨⟨ClX.pin_at I3, I3.kIn⟩, run_cmS hf hr I3 sa2 rds rv q2⟩
/-- x.f, x a class, f a constant of it -/
structure CCon (K : PySem.W.Frag) (mg : Str → Option Value) (x f : Str) (d : D) : Prop where
  ex : ∃ (C : Addr) (v : V) (u : Value), mg x = some (.ref C) ∧ ClX.CRead K C (.type "type") ∧ ClX.CVal K C (.type "type") f v u ∧ RepA K d v
theorem pd_cval {f : Str} {d : D} (F : CCon X.K X.mg x f d) (hg : Gl X x := by rfl) (hdb : (x == ("__debug__" : Str)) = false := by decide)
    (hb : attributeBase (.Name x p2) f X.env (eval (.Name x p2) X.env) = eval (.Name x p2) X.env := by rfl) : PDE X (.Attribute (.Name x p2) f pos) (dC d) := by
  obtain ⟨C, v, u, hm, r1, c1, ra⟩ := F.ex
  exact pd_of (ClX.pe_cval (pe_glob (v := .ref C) hg hm rfl hdb) hb) fun S r m σ Q sa re q => ⟨C, _, v, u, rfl, r1, c1, Post.ok q (Stp.refl S) sa (ra.to _ _)⟩
/-- a class in a variable, called -/
noncomputable def dMakeV (i : Nat) (C : Addr) (G : DFn) (t : DA) : DE := fun e m => match e[i]? with
  | some (some (.val (.ref a))) => if a = C then dMake C G t e m else .stuck
  | _ => .stuck
@[simp ↓] theorem dMakeV_ap (i : Nat) (C : Addr) (G : DFn) (t : DA) (e : En) (m : Mu) : dMakeV i C G t e m = match e[i]? with
  | some (some (.val (.ref a))) => if a = C then dMake C G t e m else .stuck
  | _ => .stuck := rfl
theorem pd_makeV {i : Nat} {y : Str} (F : KT X.prog X.w X.K X.mg X.base k y C G) (hr : Room (k + 1) X.A) (ha : PDA X (e :: es) t)
    (hN : X.N[i]? = some x := by rfl) (hv : Vis X.env.scope x := by first | exact Or.inl rfl | exact Or.inr (Or.inl rfl) | exact Or.inr (Or.inr rfl)) (hd : (x == ("__debug__" : Str)) = false := by decide)
    (hcd : (x == ("__classdict__" : Str)) = false := by decide)
    (ht : eval (.Call (.Name x p) (e :: es) [] pos) X.env = (do callWith pos (← eval (.Name x p) X.env) [] (backTo pos (starEach (e :: es) X.env)) (backToKw pos (keywordEach [] X.env))) := by rfl)
    (he : starEach (e :: es) X.env = (false, eval e X.env) :: starEach es X.env := by exact se_cons _ _ _ rfl) (hpl : (backTo pos (starEach es X.env)).any (·.1) = false := by exact se_any _ _ _ rfl) :
    PDE X (.Call (.Name x p) (e :: es) [] pos) (dMakeV i C G t) := by
  intro S r m σ Q sa re q pins s I
  unfold dMakeV at q
  split at q
  · rename_i a e1
    split at q
    · rename_i hC
      subst hC
      obtain ⟨v, h1, h2⟩ := re.2 i _ e1
      cases h2
      refine Call_ (thn ((pe_var (i := i) hN hv hd hcd).run pins s σ S.H (fun v H => v = .ref a ∧ H = S.H) I ⟨_, h1, rfl, rfl⟩) fun u s1 ⟨y, H1, I1, ry, ey, eH⟩ => ?_) ht
      subst ey; subst eH
      obtain rfl : u = Value.ref a := ry
      obtain ⟨_, _, _, _, _, M, _⟩ := F.ex
      refine PySem.W.callWith_K (h₀ := X.base) I1.ok.mod.kin M.kp (thn (ha.run sa re q I1 pos) ?_) he hpl
      rintro us s1 ⟨xs, ds, m1, T, st, sa1, rds, rv, I1, q1⟩
      exact ⟨I1.kIn, run_mk F hr I1 sa1 rds rv q1⟩
    · exact q.elim
  · exact q.elim
end
end DL

namespace DL
open PySem PySem.Spec PyProof.Rows L2
variable [LamTab]
/-! ### what is walked, as long as the store is as it was -/
abbrev GdL := List D × (Mu → Prop)
abbrev DAG := En → Mu → Res GdL
def PostIG (K : PySem.W.Frag) (S : Wd) (r : Res GdL) (R : It → Hp → Prop) (W : XK) : Prop := match r with
  | .stuck => False
  | .ok x m => ∀ J T, Stp S T → Sta K T m → ItOkG K x.2 T J x.1 → R J T.H
  | .exc C fs m => ∀ dd vs T, Stp S T → S.H dd = none → Sta K T m → T.H dd = some (.xd vs) → RepF K T.i T.F fs vs → W (.ref C) (some dd) T.H
def PDIG (X : Cx) (tg iter : Expr) (t : DAG) : Prop := ∀ S r m σ R, Sta X.K S m → RelE X.K S r σ → PostIG X.K S (t r m) R (fun c d H => Fly X c d σ H) → WI X tg iter σ S.H R
theorem pdig_of {X : Cx} {tg iter : Expr} {u : TI} {t : DAG} (h : PI X tg iter u) (k : ∀ S r m σ R, Sta X.K S m → RelE X.K S r σ → PostIG X.K S (t r m) R (fun c d H => Fly X c d σ H) → u σ S.H R) : PDIG X tg iter t :=
  fun S r m σ R sa re p pins s I => h.run pins s σ S.H R I (k S r m σ R sa re p)
theorem PostIG.bindI {α β : Type} {R' : Wd → α → β → Prop} {K : PySem.W.Frag} {S : Wd} {r : Res α} {f : α → Mu → Res GdL} {Q : It → Hp → Prop} {Q' : β → Hp → Prop} {W : XK} (h : PostIG K S (r.bind f) Q W)
    (g : ∀ a m v T, Stp S T → Sta K T m → R' T a v → PostIG K T (f a m) Q W → Q' v T.H) : Post R' K S r Q' W := by
  cases r with
  | stuck => exact h
  | ok a m =>
    intro v U s1 s2 s3
    refine g a m v U s1 s2 s3 ?_
    have h : PostIG K S (f a m) Q W := h
    cases q : f a m with
    | stuck => rw [q] at h; exact h
    | ok ds m1 => rw [q] at h; exact fun J T st => h J T (s1.trans st)
    | exc C fs m1 => rw [q] at h; exact fun dd vs T st hn => h dd vs T (s1.trans st) (s1.old dd hn)
  | exc C fs m => exact h
/-- any walk of the old kind -/
def liG (t : DA) : DAG := fun e m => (t e m).bind fun ds m1 => .ok (ds, fun _ => True) m1
@[simp ↓] theorem liG_ap (t : DA) (e : En) (m : Mu) : liG t e m = (t e m).bind fun ds m1 => .ok (ds, fun _ => True) m1 := rfl
def orG (t u : DAG) : DAG := fun e m => match t e m with
  | .stuck => u e m
  | r => r
@[simp ↓] theorem orG_ap (t u : DAG) (e : En) (m : Mu) : orG t u e m = match t e m with
  | .stuck => u e m
  | r => r := rfl
def seqGL (m : Mu) (d : D) : Option GdL := match d with
  | .lst ds => some (ds, fun _ => True)
  | .loc n => match m[n]? with
    | some (.lst ds) => some (ds, fun m => m[n]? = some (.lst ds))
    | _ => none
  | _ => none
@[simp] theorem seqGL_lst (m : Mu) (ds : List D) : seqGL m (.lst ds) = some (ds, fun _ => True) := rfl
@[simp] theorem seqGL_loc (m : Mu) (n : Nat) : seqGL m (.loc n) = match m[n]? with
  | some (.lst ds) => some (ds, fun m => m[n]? = some (.lst ds))
  | _ => none := rfl
def dItGL (ta : DE) : DAG := fun e m => (ta e m).bind fun d m1 => match seqGL m1 d with
  | some x => .ok x m1
  | none => .stuck
@[simp ↓] theorem dItGL_ap (ta : DE) (e : En) (m : Mu) : dItGL ta e m = (ta e m).bind fun d m1 => match seqGL m1 d with
  | some x => .ok x m1
  | none => .stuck := rfl
def dItGE (t : DA) : DAG := fun e m => (t e m).bind fun ds m1 => match ds with
  | [d] => match seqGL m1 d with
    | some x => .ok ((List.range x.1.length).zipWith (fun k d => .tup [.int (k : Nat), d]) x.1, x.2) m1
    | none => .stuck
  | _ => .stuck
@[simp ↓] theorem dItGE_ap (t : DA) (e : En) (m : Mu) : dItGE t e m = (t e m).bind fun ds m1 => match ds with
  | [d] => match seqGL m1 d with
    | some x => .ok ((List.range x.1.length).zipWith (fun k d => .tup [.int (k : Nat), d]) x.1, x.2) m1
    | none => .stuck
  | _ => .stuck := rfl
def dItGZ (t : DA) : DAG := fun e m => (t e m).bind fun ds m1 => match ds with
  | [a, b] => match seqGL m1 a, seqGL m1 b with
    | some x, some y => .ok (x.1.zipWith (fun x y => .tup [x, y]) y.1, fun m => x.2 m ∧ y.2 m) m1
    | _, _ => .stuck
  | _ => .stuck
@[simp ↓] theorem dItGZ_ap (t : DA) (e : En) (m : Mu) : dItGZ t e m = (t e m).bind fun ds m1 => match ds with
  | [a, b] => match seqGL m1 a, seqGL m1 b with
    | some x, some y => .ok (x.1.zipWith (fun x y => .tup [x, y]) y.1, fun m => x.2 m ∧ y.2 m) m1
    | _, _ => .stuck
  | _ => .stuck := rfl
section
variable {K : PySem.W.Frag} {T : Wd} {m : Mu} {d : D} {v : V} {x : GdL}
theorem lookG (sa : Sta K T m) (rd : Rep K T.i T.F d v) (h : seqGL m d = some x) : x.2 m ∧ ∃ a, v = .ref a ∧ ∀ U m', Stp T U → Sta K U m' → x.2 m' → ∃ xs, SqL K U.H a xs ∧ Reps K U.i U.F x.1 xs := by
  unfold seqGL at h
  split at h
  · rename_i ds
    cases h
    obtain ⟨a, xs, rfl, hr, kk⟩ := frozen sa rd
    exact ⟨trivial, a, rfl, fun U m' st' sa' _ => ⟨xs, kk U m' st' sa'⟩⟩
  · rename_i n
    split at h
    · rename_i ds e0
      cases h
      cases rd with
      | @loc _ a ha =>
      refine ⟨e0, a, rfl, fun U m' st' sa' e' => ?_⟩
      obtain ⟨xs, q1, q2⟩ := sa'.ok n a _ (pre_get st'.pre ha) e'
      exact ⟨xs, .inl (.inl q1), q2⟩
    · cases h
  · cases h
end
section
variable {X : Cx} {a b tg iter : Expr} {pos p tpos : Pos} {t u : DA} {ta : DE} {tG uG : DAG}
theorem pdig_pdi (h : PDI X tg iter t) : PDIG X tg iter (liG t) := fun S r m σ R sa re p => h S r m σ R sa re (by
  unfold liG at p
  cases q : t r m with
  | stuck => rw [q] at p; exact p
  | exc C fs m1 => rw [q] at p; exact p
  | ok ds m1 =>
    rw [q] at p
    intro J T st sa1 hJ
    exact p J T st sa1 (fun U m' i s1 s2 _ => hJ U m' i s1 s2))
theorem pdig_or (h : PDIG X tg iter tG) (h2 : PDIG X tg iter uG) : PDIG X tg iter (orG tG uG) := fun S r m σ R sa re p => by
  unfold orG at p
  cases q : tG r m with
  | stuck => rw [q] at p; exact h2 S r m σ R sa re p
  | ok d m1 => exact h S r m σ R sa re (by rw [q] at p ⊢; exact p)
  | exc C fs m1 => exact h S r m σ R sa re (by rw [q] at p ⊢; exact p)
theorem pdig_list (hi : PDE X iter ta) : PDIG X tg iter (dItGL ta) := by
  refine pdig_of (pi_list (mxE X iter)) fun S r m σ R sa re p => ?_
  refine hi S r m σ _ sa re (PostIG.bindI p fun d m1 v T st sa1 rd q => ?_)
  split at q
  · rename_i x e
    obtain ⟨g0, a, rfl, look⟩ := lookG sa1 rd e
    obtain ⟨xs, k1, k2⟩ := look T m1 (Stp.refl T) sa1 g0
    refine ⟨a, rfl, ⟨xs, k1⟩, q _ T (Stp.refl T) sa1 fun U m' i st' sa' hgd => ?_⟩
    obtain ⟨xs, l1, l2⟩ := look U m' st' sa' hgd
    refine ⟨fun d hd => ?_, fun hl => ⟨xs, l1, by rw [← l2.len]; exact hl⟩⟩
    obtain ⟨v, hv, rv⟩ := l2.get hd
    refine ⟨⟨xs, v, l1, hv⟩, fun x H' hy => ⟨U, hy.1.symm, Stp.refl U, sa', ?_⟩⟩
    have := hy.2 xs l1
    rw [hv] at this; cases this
    exact rv
  · exact q.elim
theorem pdig_enum {elts : List Expr} {kk : Nat} (hm : X.mg "enumerate" = none) (ha : PDA X [a] t) (hg : Gl X "enumerate" := by rfl) (hs : starEach [a] X.env = [(false, eval a X.env)] := by rfl) : PDIG X (.Tuple elts kk tpos) (.Call (.Name "enumerate" p) [a] [] pos) (dItGE t) := by
  refine pdig_of (pi_enum hg hm (mxA X [a]) hs) fun S r m σ R sa re p => ?_
  refine ha S r m σ _ sa re (PostIG.bindI p fun d m1 v T st sa1 rd q => ?_)
  split at q
  · split at q
    · rename_i es x e
      obtain ⟨w, rfl, hw⟩ := reps1 rd
      obtain ⟨g0, a, rfl, look⟩ := lookG sa1 hw e
      obtain ⟨xs, k1, k2⟩ := look T m1 (Stp.refl T) sa1 g0
      refine ⟨a, xs, rfl, k1, q _ T (Stp.refl T) sa1 fun U m' i st' sa' hgd => ?_⟩
      obtain ⟨xs, l1, l2⟩ := look U m' st' sa' hgd
      refine ⟨fun d hd => ?_, fun hl => ⟨xs, l1, ?_⟩⟩
      · obtain ⟨x, hx, rfl⟩ := enum_get _ i d hd
        obtain ⟨v, hv, rv⟩ := l2.get hx
        refine ⟨⟨xs, v, l1, hv⟩, fun y H' hy => ?_⟩
        obtain ⟨n, z, rfl, hn, rfl, hz⟩ := hy
        have hz' := hz xs l1
        rw [hv] at hz'; cases hz'
        have st2 := Stp.new sa' (o := .tup [.int (i : Nat), v]) hn
        exact ⟨U.new n _, rfl, st2, sa'.new hn, .tup (.inl (.inl upd_same)) (.cons (.int _) (.cons (rv.stp st2) .nil))⟩
      · have hl : ((List.range x.1.length).zipWith (fun k d => D.tup [.int (k : Nat), d]) x.1).length ≤ i := hl
        rw [List.length_zipWith, List.length_range, Nat.min_self, l2.len] at hl
        exact hl
    · exact q.elim
  · exact q.elim
theorem pdig_zip {elts : List Expr} {kk : Nat} (hm : X.mg "zip" = none) (ha : PDA X [a, b] t) (hg : Gl X "zip" := by rfl) (hs : starEach [a, b] X.env = (false, eval a X.env) :: starEach [b] X.env := by rfl) (hpl : (backTo pos (starEach [b] X.env)).any (·.1) = false := by rfl) : PDIG X (.Tuple elts kk tpos) (.Call (.Name "zip" p) [a, b] [] pos) (dItGZ t) := by
  refine pdig_of (RZ.pi_zipA hg hm (mxA X [a, b]) hs hpl) fun S r m σ R sa re p => ?_
  refine ha S r m σ _ sa re (PostIG.bindI p fun d m1 v T st sa1 rd q => ?_)
  split at q
  · split at q
    · rename_i x y e e2
      obtain ⟨w, w2, rfl, hw, hw2⟩ := reps2 rd
      obtain ⟨g0, a, rfl, look⟩ := lookG sa1 hw e
      obtain ⟨g1, b, rfl, look2⟩ := lookG sa1 hw2 e2
      obtain ⟨xs, k1, _⟩ := look T m1 (Stp.refl T) sa1 g0
      obtain ⟨ys, k2, _⟩ := look2 T m1 (Stp.refl T) sa1 g1
      refine ⟨a, b, xs, ys, rfl, .inl ⟨k1, k2, q _ T (Stp.refl T) sa1 fun U m' i st' sa' hgd => ?_⟩⟩
      obtain ⟨xs, l1, l2⟩ := look U m' st' sa' hgd.1
      obtain ⟨ys, n1, n2⟩ := look2 U m' st' sa' hgd.2
      refine ⟨fun d hd => ?_, fun hl => ⟨xs, ys, l1, n1, ?_⟩⟩
      · obtain ⟨x, y, hx, hy, rfl⟩ := zip_get hd
        obtain ⟨v, hv, rv⟩ := l2.get hx
        obtain ⟨v2, hv2, rv2⟩ := n2.get hy
        refine ⟨⟨xs, ys, v, v2, l1, n1, hv, hv2⟩, fun y H' hy => ?_⟩
        obtain ⟨n, z, z2, rfl, hn, rfl, hz, hz2⟩ := hy
        have hz' := hz xs l1
        have hz2' := hz2 ys n1
        rw [hv] at hz'; cases hz'
        rw [hv2] at hz2'; cases hz2'
        have st2 := Stp.new sa' (o := .tup [v, v2]) hn
        exact ⟨U.new n _, rfl, st2, sa'.new hn, .tup (.inl (.inl upd_same)) (.cons (rv.stp st2) (.cons (rv2.stp st2) .nil))⟩
      · have hl : (x.1.zipWith (fun x y => D.tup [x, y]) y.1).length ≤ i := hl
        rw [List.length_zipWith, l2.len, n2.len] at hl
        omega
    · exact q.elim
  · exact q.elim
end
/-! ### comprehensions and loops over them -/
noncomputable def dCompX (fin : List D → Mu → Res D) (t : DAG) (g : DG) (c : DT) (b : DE) (own : List Nat) : DE := fun e m => (t e m).bind fun x m1 => (dCompG x.2 g c b (wipeE e own) x.1 m1 []).bind fin
@[simp ↓] theorem dCompX_ap (fin : List D → Mu → Res D) (t : DAG) (g : DG) (c : DT) (b : DE) (own : List Nat) (e : En) (m : Mu) : dCompX fin t g c b own e m = (t e m).bind fun x m1 => (dCompG x.2 g c b (wipeE e own) x.1 m1 []).bind fin := rfl
open Classical in
noncomputable def dLoopG (g : DG) (b : DS) (gd : Mu → Prop) : List D → En → Mu → RS
  | [], e, m => if gd m then .nx e m else .stuck
  | d :: ds, e, m => if gd m then (match g d e with
    | none => .stuck
    | some e1 => match b e1 m with
      | .nx e2 m2 => dLoopG g b gd ds e2 m2
      | .ct e2 m2 => dLoopG g b gd ds e2 m2
      | .bk e2 m2 => .nx e2 m2
      | .rt d m2 => .rt d m2
      | .exc C fs e2 m2 => .exc C fs e2 m2
      | .stuck => .stuck) else .stuck
noncomputable def dForX (t : DAG) (g : DG) (b : DS) : DS := fun e m => match t e m with
  | .ok x m1 => dLoopG g b x.2 x.1 e m1
  | .exc C fs m1 => .exc C fs e m1
  | .stuck => .stuck
@[simp ↓] theorem dForX_ap (t : DAG) (g : DG) (b : DS) (e : En) (m : Mu) : dForX t g b e m = match t e m with
  | .ok x m1 => dLoopG g b x.2 x.1 e m1
  | .exc C fs m1 => .exc C fs e m1
  | .stuck => .stuck := rfl
section
variable {X : Cx} {elt tg iter tg1 iter1 : Expr} {ifs ifs1 : List Expr} {scope : Scope} {own : List (Str × Nat)} {vs1 : List Nat} {pos spos : Pos} {t t1 : DAG} {g g1 : DG} {c c1 : DT} {b : DE} {sl sl1 : List Nat} {fin : List D → Mu → Res D}
theorem lc_goX {σ : L2.St} {S : Wd} {r : En} {m : Mu} {Q : VK} (hi : PDIG X tg iter t)
    (hg : ∀ s H C cl fp, PDG (Bk X scope s H C cl fp) tg g sl) (ht : ∀ s H C cl fp, PDTs (Bk X scope s H C cl fp) ifs c) (he : ∀ s H C cl fp, PDE (Bk X scope s H C cl fp) elt b)
    (hsl : ∀ i ∈ sl, i ∈ own.map (·.2)) (hfin : FinOk X.K fin)
    (sa : Sta X.K S m) (re : RelE X.K S r σ) (p : PostD X.K S (dCompX fin t g c b (own.map (·.2)) r m) Q (fun c d H => Fly X c d σ H)) :
    tLc (WI X tg iter) (bG X scope tg) (bT X scope ifs) (bE X scope elt) (own.map (·.2)) σ S.H Q := by
  refine hi S r m σ _ sa re ?_
  unfold dCompX at p
  cases q : t r m with
  | stuck => rw [q] at p; exact p
  | exc C fs m1 => rw [q] at p; exact p
  | ok x m1 =>
    rw [q] at p
    intro J T st sa1 hJ
    have pT : PostD X.K T ((dCompG x.2 g c b (wipeE r (own.map (·.2))) x.1 m1 []).bind fin) Q (fun c d H => Fly X c d σ H) := Post.step st p
    exact lc_goG hg ht he hsl hfin sa1 (re.stp st) hJ pT
theorem pd_lcX (hi : PDIG X tg iter t) (hN : X.N.Nodup) (ok : BlkOk X.N X.env.scope scope own)
    (hg : ∀ s H C cl fp, PDG (Bk X scope s H C cl fp) tg g sl) (ht : ∀ s H C cl fp, PDTs (Bk X scope s H C cl fp) ifs c) (he : ∀ s H C cl fp, PDE (Bk X scope s H C cl fp) elt b) (hfin : FinOk X.K fin)
    (hc : X.calm = true) (hsl : ∀ i ∈ sl, i ∈ own.map (·.2) := by decide) (hs : ∀ x, foldedSetIterable iter X.env x = pure x := by intro _; rfl) :
    PDE X (.ListComp elt [⟨tg, iter, ifs, 0⟩] scope pos) (dCompX fin t g c b (own.map (·.2))) :=
  pd_of (pe_lc hc hN (mxI X tg iter) ok (mxBG X scope tg) (mxBT X scope ifs) (mxBE X scope elt) hs) fun S r m σ Q sa re p => lc_goX hi hg ht he hsl hfin sa re p
theorem pds_setLcX {i : Nat} {y : Str} {py : Pos} (hi : PDIG X tg iter t) (hN : X.N.Nodup) (ok : BlkOk X.N X.env.scope scope own)
    (hg : ∀ s H C cl fp, PDG (Bk X scope s H C cl fp) tg g sl) (ht : ∀ s H C cl fp, PDTs (Bk X scope s H C cl fp) ifs c) (he : ∀ s H C cl fp, PDE (Bk X scope s H C cl fp) elt b) (hfin : FinOk X.K fin)
    (hc : X.calm = true) (hsw : swapsWith (.ListComp elt [⟨tg, iter, ifs, 0⟩] scope pos) (some (.Name y py)) spos.line X.env = pure true) (hsl : ∀ i ∈ sl, i ∈ own.map (·.2) := by decide) (hy : X.N[i]? = some y := by rfl) (hyl : X.env.scope.names.lookup y = some .local := by rfl) (hs : ∀ x, foldedSetIterable iter X.env x = pure x := by intro _; rfl) :
    PDS X (.Assign [.Name y py] (.ListComp elt [⟨tg, iter, ifs, 0⟩] scope pos) spos) (dSet i (dCompX fin t g c b (own.map (·.2)))) := by
  refine ps_of (ps_setLc hc hN hy hyl hsw (mxI X tg iter) ok (mxBG X scope tg) (mxBT X scope ifs) (mxBE X scope elt) hs) fun S r m σ N sa re p => ?_
  exact lc_goX hi hg ht he hsl hfin sa re (PDE.stm re p fun d m1 v T st sa1 rd q => q _ T (Stp.refl T) sa1 ((re.stp st).set i rd))
theorem pds_forX {body : List Stmt} {u : DS} (hi : PDIG X tg iter t) (hg : PDG X tg g sl) (hb : PDSs X body u) (hc : X.calm = true) (hp : PassesOwn (model X.prog X.w) X.A X.env X.xe)
    (hs : ∀ x, foldedSetIterable iter X.env x = pure x := by intro _; rfl) : PDS X (.For tg iter body [] pos) (dForX t g u) := by
  refine ps_of (ps_for hp hc (mxI X tg iter) (mxG X tg) (mxSs X body) hs) fun S r m σ N sa re p => hi S r m σ _ sa re ?_
  unfold dForX at p
  cases q : t r m with
  | stuck => rw [q] at p; exact p
  | exc C fs m1 => rw [q] at p; exact fun dd vs T st hn sa1 h1 h2 => p dd vs σ T st hn sa1 (re.stp st) h1 h2
  | ok x m1 =>
    obtain ⟨ds, gd⟩ := x
    rw [q] at p
    intro J T st sa1 hJ
    refine ⟨fun i n σ' H' => n = ds.length - i ∧ i ≤ ds.length ∧ ∃ (U : Wd) (e : En) (m' : Mu), U.H = H' ∧ Stp T U ∧ Sta X.K U m' ∧ RelE X.K U e σ' ∧ PostS X.K U (dLoopG g u gd (ds.drop i) e m') N (Fly X),
      ⟨ds.length, by simp, Nat.zero_le _, T, r, m1, rfl, Stp.refl T, sa1, re.stp st, PostS.step st p⟩, ?_⟩
    rintro i n σ' H' ⟨rfl, hi', U, e, m', rfl, stU, saU, reU, pU⟩
    by_cases hlt : i < ds.length
    · rw [List.drop_eq_getElem_cons hlt] at pU
      unfold dLoopG at pU
      split at pU
      · rename_i hgd
        have hJ1 := (hJ U m' i stU saU hgd).1 _ (List.getElem?_eq_getElem hlt)
        refine .inr ⟨hJ1.1, fun σ2 H2 => i + 1 ≤ ds.length ∧ ∃ (U2 : Wd) (e2 : En) (m2 : Mu), U2.H = H2 ∧ Stp T U2 ∧ Sta X.K U2 m2 ∧ RelE X.K U2 e2 σ2 ∧ PostS X.K U2 (dLoopG g u gd (ds.drop (i + 1)) e2 m2) N (Fly X),
          fun σ2 H2 h2 => ⟨ds.length - (i + 1), by omega, rfl, h2.1, h2.2⟩, fun x H2 hy => ?_⟩
        obtain ⟨Y, rfl, stY, saY, rdY⟩ := hJ1.2 x H2 hy
        have pY := PostS.step stY pU
        cases qg : g ds[i] e with
        | none => rw [qg] at pY; exact pY.elim
        | some e1 =>
          rw [qg] at pY
          refine hg Y e m' σ' ds[i] x e1 _ saY (reU.stp stY) rdY qg fun σ1 re1 _ => hb Y e1 m' σ1 _ saY re1 ?_
          have stT := stU.trans stY
          dsimp only at pY
          cases qb : u e1 m' with
          | stuck => rw [qb] at pY; exact pY.elim
          | nx e2 m2 => rw [qb] at pY; exact fun σ2 Z stZ saZ reZ => ⟨hlt, Z, e2, m2, rfl, stT.trans stZ, saZ, reZ, PostS.step stZ pY⟩
          | ct e2 m2 => rw [qb] at pY; exact fun σ2 Z stZ saZ reZ => ⟨hlt, Z, e2, m2, rfl, stT.trans stZ, saZ, reZ, PostS.step stZ pY⟩
          | bk e2 m2 => rw [qb] at pY; exact pY
          | rt d m2 => rw [qb] at pY; exact pY
          | exc C fs e2 m2 => rw [qb] at pY; exact pY
      · exact pU.elim
    · have e : i = ds.length := by omega
      subst e
      rw [List.drop_length] at pU
      unfold dLoopG at pU
      split at pU
      · rename_i hgd
        exact .inl ⟨(hJ U m' _ stU saU hgd).2 (Nat.le_refl _), pU σ' U (Stp.refl U) saU reU⟩
      · exact pU.elim
end
open Classical in
noncomputable def dLc1G (n : Nat) (gd : Mu → Prop) (g : DG) (c : DT) (b : DE) (e : En) : List D → Mu → Res Unit
  | [], m => if gd m then .ok () m else .stuck
  | d :: ds, m => if gd m then (match g d e with
    | none => .stuck
    | some e1 => match c e1 m with
      | .ok true m1 => match b e1 m1 with
        | .ok x m2 => match m2[n]? with
          | some (.lst acc) => if acc.length < sizeLine then dLc1G n gd g c b e ds (m2.set n (.lst (acc ++ [x]))) else .stuck
          | _ => .stuck
        | _ => .stuck
      | .ok false m1 => dLc1G n gd g c b e ds m1
      | _ => .stuck) else .stuck
open Classical in
noncomputable def dLc2G (n : Nat) (gd : Mu → Prop) (g : DG) (c : DT) (t1 : DAG) (g1 : DG) (c1 : DT) (b : DE) (vs1 : List Nat) (e : En) : List D → Mu → Res Unit
  | [], m => if gd m then .ok () m else .stuck
  | d :: ds, m => if gd m then (match g d e with
    | none => .stuck
    | some e1 => match c e1 m with
      | .ok true m1 => match t1 e1 m1 with
        | .ok x1 m2 => (dLc1G n x1.2 g1 c1 b (wipeE e1 vs1) x1.1 m2).bind fun _ m3 => dLc2G n gd g c t1 g1 c1 b vs1 e ds m3
        | _ => .stuck
      | .ok false m1 => dLc2G n gd g c t1 g1 c1 b vs1 e ds m1
      | _ => .stuck) else .stuck
noncomputable def dComp2X (t : DAG) (g : DG) (c : DT) (t1 : DAG) (g1 : DG) (c1 : DT) (b : DE) (own vs1 : List Nat) : DE := fun e m =>
  (t e m).bind fun x m1 => (dLc2G m1.length x.2 g c t1 g1 c1 b vs1 (wipeE e own) x.1 (m1 ++ [.lst []])).bind fun _ m2 => .ok (.loc m1.length) m2
@[simp ↓] theorem dComp2X_ap (t : DAG) (g : DG) (c : DT) (t1 : DAG) (g1 : DG) (c1 : DT) (b : DE) (own vs1 : List Nat) (e : En) (m : Mu) : dComp2X t g c t1 g1 c1 b own vs1 e m =
  (t e m).bind fun x m1 => (dLc2G m1.length x.2 g c t1 g1 c1 b vs1 (wipeE e own) x.1 (m1 ++ [.lst []])).bind fun _ m2 => .ok (.loc m1.length) m2 := rfl
section
variable {X : Cx} {elt tg iter tg1 iter1 : Expr} {ifs ifs1 : List Expr} {scope : Scope} {own : List (Str × Nat)} {vs1 : List Nat} {pos spos : Pos} {t t1 : DAG} {g g1 : DG} {c c1 : DT} {b : DE} {sl sl1 : List Nat}
theorem lc2_goX {σ : L2.St} {S : Wd} {r : En} {m : Mu} {Q : VK} (hi : PDIG X tg iter t)
    (hg : ∀ s H C cl fp, PDG (Bk X scope s H C cl fp) tg g sl) (ht : ∀ s H C cl fp, PDTs (Bk X scope s H C cl fp) ifs c)
    (hi1 : ∀ s H C cl fp, PDIG (Bk X scope s H C cl fp) tg1 iter1 t1)
    (hg1 : ∀ s H C cl fp, PDG (Bk X scope s H C cl fp) tg1 g1 sl1) (ht1 : ∀ s H C cl fp, PDTs (Bk X scope s H C cl fp) ifs1 c1)
    (he : ∀ s H C cl fp, PDE (Bk X scope s H C cl fp) elt b)
    (hsl : ∀ i ∈ sl, i ∈ own.map (·.2)) (hsl1 : ∀ i ∈ sl1, i ∈ vs1)
    (sa : Sta X.K S m) (re : RelE X.K S r σ) (p : PostD X.K S (dComp2X t g c t1 g1 c1 b (own.map (·.2)) vs1 r m) Q (fun c d H => Fly X c d σ H)) :
    tLc2 (WI X tg iter) (bG X scope tg) (bT X scope ifs) (bI X scope tg1 iter1) (bG X scope tg1) (bT X scope ifs1) (bE X scope elt) (own.map (·.2)) vs1 σ S.H Q := by
  refine hi S r m σ _ sa re ?_
  unfold dComp2X at p
  cases q : t r m with
  | stuck => rw [q] at p; exact p
  | exc C fs m1 => rw [q] at p; exact p
  | ok x0 m1 =>
    obtain ⟨ds, gd⟩ := x0
    rw [q] at p
    intro J T st sa1 hJ Dd hD
    have pT : PostD X.K T ((dLc2G m1.length gd g c t1 g1 c1 b vs1 (wipeE r (own.map (·.2))) ds (m1 ++ [.lst []])).bind fun _ m2 => .ok (.loc m1.length) m2) Q (fun c d H => Fly X c d σ H) := Post.step st p
    have reW : RelE X.K T (wipeE r (own.map (·.2))) (wipe σ (own.map (·.2))) := (re.stp st).wipe _
    have stN : Stp T (T.tok Dd (.lst [])) := Stp.tok sa1 hD
    have saN : Sta X.K (T.tok Dd (.lst [])) (m1 ++ [.lst []]) := Sta.tok sa1 hD ⟨[], upd_same, .nil⟩
    have iN : (T.tok Dd (.lst [])).i[m1.length]? = some Dd := by
      show (T.i ++ [Dd])[m1.length]? = some Dd
      rw [← sa1.len, List.getElem?_append_right (Nat.le_refl _), Nat.sub_self]; rfl
    generalize m1.length = n0 at *
    refine ⟨fun i n H' => n = ds.length - i ∧ i ≤ ds.length ∧ ∃ (U : Wd) (m' : Mu), U.H = H' ∧ Stp (T.tok Dd (.lst [])) U ∧ Sta X.K U m' ∧
        PostD X.K T ((dLc2G n0 gd g c t1 g1 c1 b vs1 (wipeE r (own.map (·.2))) (ds.drop i) m').bind fun _ m2 => .ok (.loc n0) m2) Q (fun c d H => Fly X c d σ H),
      ⟨ds.length, by simp, Nat.zero_le _, T.tok Dd (.lst []), _, rfl, Stp.refl _, saN, pT⟩, ?_⟩
    rintro i n H' ⟨rfl, hi', U, m', rfl, stU, saU, pU⟩
    have stTU := stN.trans stU
    by_cases hlt : i < ds.length
    · rw [List.drop_eq_getElem_cons hlt] at pU
      unfold dLc2G at pU
      split at pU
      case isFalse => exact (show False from pU).elim
      rename_i hgd
      refine .inr ⟨((hJ U m' i stTU saU hgd).1 _ (List.getElem?_eq_getElem hlt)).1, fun H2 => i + 1 ≤ ds.length ∧ ∃ (U : Wd) (m' : Mu), U.H = H2 ∧ Stp (T.tok Dd (.lst [])) U ∧ Sta X.K U m' ∧
        PostD X.K T ((dLc2G n0 gd g c t1 g1 c1 b vs1 (wipeE r (own.map (·.2))) (ds.drop (i + 1)) m').bind fun _ m2 => .ok (.loc n0) m2) Q (fun c d H => Fly X c d σ H),
        fun H2 h2 => ⟨ds.length - (i + 1), by omega, rfl, h2.1, h2.2⟩, fun x H2 hy => ?_⟩
      obtain ⟨Y, rfl, stY, saY, rdY⟩ := ((hJ U m' i stTU saU hgd).1 _ (List.getElem?_eq_getElem hlt)).2 x H2 hy
      have stN2 := stU.trans stY
      have stT := stN.trans stN2
      cases qg : g ds[i] (wipeE r (own.map (·.2))) with
      | none => rw [qg] at pU; exact (show False from pU).elim
      | some e1 =>
        rw [qg] at pU
        dsimp only at pU
        intro s0 H0 C0 cl0 fp0
        refine hg s0 H0 C0 cl0 fp0 Y (wipeE r (own.map (·.2))) m' (wipe σ (own.map (·.2))) ds[i] x e1 _ saY (reW.stp stT) rdY qg ?_
        intro σ1 re1 bs
        refine ⟨?_, ?_⟩
        · rw [bs _ hsl]
          exact wipe_wipe _ _
        intro s0 H0 C0 cl0 fp0
        cases qc : c e1 m' with
        | stuck => rw [qc] at pU; exact (show False from pU).elim
        | exc C fs m2 => rw [qc] at pU; exact (show False from pU).elim
        | ok k m2 =>
          rw [qc] at pU
          refine ht s0 H0 C0 cl0 fp0 Y e1 m' σ1 _ saY re1 ?_
          rw [qc]
          intro k' Z stZ saZ hk
          cases (show k = k' from hk)
          have stNZ := stN2.trans stZ
          cases k with
          | false => exact iteF ⟨hlt, Z, m2, rfl, stNZ, saZ, pU⟩
          | true =>
            refine iteT ?_
            intro s0 H0 C0 cl0 fp0
            dsimp only at pU
            cases qt : t1 e1 m2 with
            | stuck => rw [qt] at pU; exact (show False from pU).elim
            | exc C fs m3 => rw [qt] at pU; exact (show False from pU).elim
            | ok x1 m3 =>
              obtain ⟨ds1, gd1⟩ := x1
              rw [qt] at pU
              dsimp only at pU
              refine hi1 s0 H0 C0 cl0 fp0 Z e1 m2 σ1 _ saZ (re1.stp stZ) ?_
              rw [qt]
              intro J1 T1 st1 sa2 hJ1
              have stN1 := stNZ.trans st1
              have reV : RelE X.K T1 (wipeE e1 vs1) (wipe σ1 vs1) := ((re1.stp stZ).stp st1).wipe _
              rw [resB_assoc] at pU
              refine ⟨fun j k H' => k = ds1.length - j ∧ j ≤ ds1.length ∧ ∃ (U : Wd) (m' : Mu), U.H = H' ∧ Stp T1 U ∧ Sta X.K U m' ∧
                  PostD X.K T ((dLc1G n0 gd1 g1 c1 b (wipeE e1 vs1) (ds1.drop j) m').bind fun _ m4 => (dLc2G n0 gd g c t1 g1 c1 b vs1 (wipeE r (own.map (·.2))) (ds.drop (i + 1)) m4).bind fun _ m2 => .ok (.loc n0) m2) Q (fun c d H => Fly X c d σ H),
                ⟨ds1.length, by simp, Nat.zero_le _, T1, m3, rfl, Stp.refl T1, sa2, pU⟩, ?_⟩
              rintro j k H'' ⟨rfl, hj', V0, n', rfl, stV0, saV0, pV⟩
              by_cases hlt1 : j < ds1.length
              · rw [List.drop_eq_getElem_cons hlt1] at pV
                unfold dLc1G at pV
                split at pV
                case isFalse => exact (show False from pV).elim
                rename_i hgd1
                refine .inr ⟨((hJ1 V0 n' j stV0 saV0 hgd1).1 _ (List.getElem?_eq_getElem hlt1)).1, fun H2 => j + 1 ≤ ds1.length ∧ ∃ (U : Wd) (m' : Mu), U.H = H2 ∧ Stp T1 U ∧ Sta X.K U m' ∧
                  PostD X.K T ((dLc1G n0 gd1 g1 c1 b (wipeE e1 vs1) (ds1.drop (j + 1)) m').bind fun _ m4 => (dLc2G n0 gd g c t1 g1 c1 b vs1 (wipeE r (own.map (·.2))) (ds.drop (i + 1)) m4).bind fun _ m2 => .ok (.loc n0) m2) Q (fun c d H => Fly X c d σ H),
                  fun H2 h2 => ⟨ds1.length - (j + 1), by omega, rfl, h2.1, h2.2⟩, fun x1 H3 hy1 => ?_⟩
                obtain ⟨Y1, rfl, stY1, saY1, rdY1⟩ := ((hJ1 V0 n' j stV0 saV0 hgd1).1 _ (List.getElem?_eq_getElem hlt1)).2 x1 H3 hy1
                have stTY := stV0.trans stY1
                cases qg1 : g1 ds1[j] (wipeE e1 vs1) with
                | none => rw [qg1] at pV; exact (show False from pV).elim
                | some e2 =>
                  rw [qg1] at pV
                  dsimp only at pV
                  intro s0 H0 C0 cl0 fp0
                  refine hg1 s0 H0 C0 cl0 fp0 Y1 (wipeE e1 vs1) n' (wipe σ1 vs1) ds1[j] x1 e2 _ saY1 (reV.stp stTY) rdY1 qg1 ?_
                  intro σ2 re2 bs2
                  refine ⟨?_, ?_⟩
                  · rw [bs2 _ hsl1]
                    exact wipe_wipe _ _
                  intro s0 H0 C0 cl0 fp0
                  cases qc1 : c1 e2 n' with
                  | stuck => rw [qc1] at pV; exact (show False from pV).elim
                  | exc C fs m2 => rw [qc1] at pV; exact (show False from pV).elim
                  | ok k1 n2 =>
                    rw [qc1] at pV
                    refine ht1 s0 H0 C0 cl0 fp0 Y1 e2 n' σ2 _ saY1 re2 ?_
                    rw [qc1]
                    intro k2 Z1 stZ1 saZ1 hk1
                    cases (show k1 = k2 from hk1)
                    cases k1 with
                    | false => exact iteF ⟨hlt1, Z1, n2, rfl, stTY.trans stZ1, saZ1, pV⟩
                    | true =>
                      refine iteT ?_
                      intro s0 H0 C0 cl0 fp0
                      dsimp only at pV
                      cases qb : b e2 n2 with
                      | stuck => rw [qb] at pV; exact (show False from pV).elim
                      | exc C fs m3 => rw [qb] at pV; exact (show False from pV).elim
                      | ok dx n3 =>
                        rw [qb] at pV
                        refine he s0 H0 C0 cl0 fp0 Z1 e2 n2 σ2 _ saZ1 (re2.stp stZ1) ?_
                        rw [qb]
                        intro vx V1 stV saV rx
                        dsimp only at pV
                        have stW := ((stTY.trans stZ1).trans stV)
                        have iV : V1.i[n0]? = some Dd := pre_get (stN1.trans stW).pre iN
                        split at pV
                        · rename_i acc hacc
                          obtain ⟨av, w1, w2⟩ := saV.ok n0 Dd _ iV hacc
                          split at pV
                          · rename_i hlen
                            obtain ⟨sp, ss⟩ := saV.put (o := .lst (av ++ [vx])) iV (q := .lst (acc ++ [dx])) ⟨av ++ [vx], upd_same, w2.append (.cons rx .nil)⟩
                            exact ⟨av, w1, by rw [← w2.len]; exact hlen, hlt1, V1.put Dd (.lst (av ++ [vx])), _, rfl, stW.trans sp, ss, pV⟩
                          · exact (show False from pV).elim
                        · exact (show False from pV).elim
              · have ej : j = ds1.length := by omega
                subst ej
                rw [List.drop_length] at pV
                unfold dLc1G at pV
                split at pV
                case isFalse => exact (show False from pV).elim
                rename_i hgd1
                exact .inl ⟨(hJ1 V0 n' _ stV0 saV0 hgd1).2 (Nat.le_refl _), hlt, V0, n', rfl, stN1.trans stV0, saV0, pV⟩
    · have e : i = ds.length := by omega
      subst e
      rw [List.drop_length] at pU
      unfold dLc2G at pU
      split at pU
      case isFalse => exact (show False from pU).elim
      rename_i hgd
      refine .inl ⟨(hJ U m' _ stTU saU hgd).2 (Nat.le_refl _), ?_⟩
      have pU : PostD X.K T (Res.ok (D.loc n0) m') Q (fun c d H => Fly X c d σ H) := pU
      exact pU (.ref Dd) U stTU saU (.loc (pre_get stU.pre iN))
theorem pd_lc2X (hi : PDIG X tg iter t) (hN : X.N.Nodup) (ok : BlkOk X.N X.env.scope scope own)
    (hg : ∀ s H C cl fp, PDG (Bk X scope s H C cl fp) tg g sl) (ht : ∀ s H C cl fp, PDTs (Bk X scope s H C cl fp) ifs c)
    (hi1 : ∀ s H C cl fp, PDIG (Bk X scope s H C cl fp) tg1 iter1 t1)
    (hg1 : ∀ s H C cl fp, PDG (Bk X scope s H C cl fp) tg1 g1 sl1) (ht1 : ∀ s H C cl fp, PDTs (Bk X scope s H C cl fp) ifs1 c1)
    (he : ∀ s H C cl fp, PDE (Bk X scope s H C cl fp) elt b)
    (hc : X.calm = true) (hv : ∀ i ∈ vs1, i ∈ own.map (·.2) := by decide) (hsl : ∀ i ∈ sl, i ∈ own.map (·.2) := by decide) (hsl1 : ∀ i ∈ sl1, i ∈ vs1 := by decide)
    (hs : ∀ x, foldedSetIterable iter X.env x = pure x := by intro _; rfl) (hs1 : ∀ env x, foldedSetIterable iter1 env x = pure x := by intro _ _; rfl) :
    PDE X (.ListComp elt [⟨tg, iter, ifs, 0⟩, ⟨tg1, iter1, ifs1, 0⟩] scope pos) (dComp2X t g c t1 g1 c1 b (own.map (·.2)) vs1) :=
  pd_of (pe_lc2 hc hN (mxI X tg iter) ok hv (mxBG X scope tg) (mxBT X scope ifs) (mxBI X scope tg1 iter1) (mxBG X scope tg1) (mxBT X scope ifs1) (mxBE X scope elt) hs hs1)
    fun S r m σ Q sa re p => lc2_goX hi hg ht hi1 hg1 ht1 he hsl hsl1 sa re p
theorem pds_setLc2X {i : Nat} {y : Str} {py : Pos} (hi : PDIG X tg iter t) (hN : X.N.Nodup) (ok : BlkOk X.N X.env.scope scope own)
    (hg : ∀ s H C cl fp, PDG (Bk X scope s H C cl fp) tg g sl) (ht : ∀ s H C cl fp, PDTs (Bk X scope s H C cl fp) ifs c)
    (hi1 : ∀ s H C cl fp, PDIG (Bk X scope s H C cl fp) tg1 iter1 t1)
    (hg1 : ∀ s H C cl fp, PDG (Bk X scope s H C cl fp) tg1 g1 sl1) (ht1 : ∀ s H C cl fp, PDTs (Bk X scope s H C cl fp) ifs1 c1)
    (he : ∀ s H C cl fp, PDE (Bk X scope s H C cl fp) elt b)
    (hc : X.calm = true) (hsw : swapsWith (.ListComp elt [⟨tg, iter, ifs, 0⟩, ⟨tg1, iter1, ifs1, 0⟩] scope pos) (some (.Name y py)) spos.line X.env = pure true) (hv : ∀ i ∈ vs1, i ∈ own.map (·.2) := by decide) (hsl : ∀ i ∈ sl, i ∈ own.map (·.2) := by decide) (hsl1 : ∀ i ∈ sl1, i ∈ vs1 := by decide)
    (hy : X.N[i]? = some y := by rfl) (hyl : X.env.scope.names.lookup y = some .local := by rfl) (hs : ∀ x, foldedSetIterable iter X.env x = pure x := by intro _; rfl) (hs1 : ∀ env x, foldedSetIterable iter1 env x = pure x := by intro _ _; rfl) :
    PDS X (.Assign [.Name y py] (.ListComp elt [⟨tg, iter, ifs, 0⟩, ⟨tg1, iter1, ifs1, 0⟩] scope pos) spos) (dSet i (dComp2X t g c t1 g1 c1 b (own.map (·.2)) vs1)) := by
  refine ps_of (ps_setLc2 hc hN hy hyl hsw (mxI X tg iter) ok hv (mxBG X scope tg) (mxBT X scope ifs) (mxBI X scope tg1 iter1) (mxBG X scope tg1) (mxBT X scope ifs1) (mxBE X scope elt) hs hs1) fun S r m σ N sa re p => ?_
  exact lc2_goX hi hg ht hi1 hg1 ht1 he hsl hsl1 sa re (PDE.stm re p fun d m1 v T st sa1 rd q => q _ T (Stp.refl T) sa1 ((re.stp st).set i rd))
end
end DL

namespace DL
open PySem PySem.Spec PyProof.Rows L2
variable [LamTab]
/-! ### name op= e, for whole numbers -/
def dAugI (i : Nat) (f : Int → Int → Int) (t : DE) : DS := fun e m => match e[i]? with
  | some (some (.int a)) => rsOf e (t e m) fun d m1 => match d with
    | .int b => .nx (e.set i (some (.int (f a b)))) m1
    | _ => .stuck
  | _ => .stuck
@[simp ↓] theorem dAugI_ap (i : Nat) (f : Int → Int → Int) (t : DE) (e : En) (m : Mu) : dAugI i f t e m = match e[i]? with
  | some (some (.int a)) => rsOf e (t e m) fun d m1 => match d with
    | .int b => .nx (e.set i (some (.int (f a b)))) m1
    | _ => .stuck
  | _ => .stuck := rfl
section
variable {X : Cx} {a : Expr} {ta : DE} {pos : Pos}
theorem pds_aug {i : Nat} {x : Str} {op : Operator} {f : Int → Int → Int} {pos' : Pos} (ho : PIp X op (ipI f)) (ha : PDE X a ta) (hN : X.N.Nodup) (hi : X.N[i]? = some x := by rfl) (hx : Loc X.env.scope x := by first | exact Or.inl rfl | exact Or.inr rfl)
    (hf : X.fn x = true ∨ X.env.scope.names.lookup x = some .local := by first | exact .inl rfl | exact .inr rfl | assumption) : PDS X (.AugAssign (.Name x pos') op a pos) (dAugI i f ta) :=
  ps_of (ps_aug hN hi hx (mxE X a) ho hf) fun S r m σ N sa re p => by
    unfold dAugI at p
    split at p
    · rename_i z e
      obtain ⟨v, h1, h2⟩ := re.2 i _ e
      cases h2
      refine ⟨_, h1, ha S r m σ _ sa re (PDE.stm re p fun d m1 v T st sa1 rd q => ?_)⟩
      split at q
      · cases rd with
        | int b => exact ⟨_, _, rfl, rfl, q _ T (Stp.refl T) sa1 ((re.stp st).set i (.int _))⟩
      · exact q.elim
    · exact p.elim
/-! ### a slice that is changed later: into the store -/
def dSlM (t : DE) (lo hi : DO) : DE := fun e m => (t e m).bind fun d m1 => (lo e m1).bind fun l m2 => (hi e m2).bind fun h m3 => match seqL m3 d with
  | some ds => .ok (.loc m3.length) (m3 ++ [.lst (cutD ds l h)])
  | none => .stuck
@[simp ↓] theorem dSlM_ap (t : DE) (lo hi : DO) (e : En) (m : Mu) : dSlM t lo hi e m = (t e m).bind fun d m1 => (lo e m1).bind fun l m2 => (hi e m2).bind fun h m3 => match seqL m3 d with
  | some ds => .ok (.loc m3.length) (m3 ++ [.lst (cutD ds l h)])
  | none => .stuck := rfl
theorem pd_slM {lo hi : Option Expr} {tl th : DO} {p2 : Pos} (ha : PDE X a ta) (hl : PDO X lo tl) (hh : PDO X hi th) : PDE X (.Subscript a (.Slice lo hi none p2) pos) (dSlM ta tl th) := by
  obtain ⟨ul, hl1, hl2⟩ := hl
  obtain ⟨uh, hh1, hh2⟩ := hh
  refine pd_of (pe_slice sl_list (mxE X a) hl1 hh1) fun S r m σ Q sa re p => ?_
  refine ha S r m σ _ sa re (Post.bindI p fun d m1 v T st sa1 rd q => ?_)
  refine hl2 T r m1 σ _ sa1 (re.stp st) (Post.bindI q fun l m2 l' U st2 sa2 rl q2 => ?_)
  have rl : l = l' := rl
  subst rl
  refine hh2 U r m2 σ _ sa2 ((re.stp st).stp st2) (Post.bindI q2 fun h m3 h' Y st3 sa3 rh q3 => ?_)
  have rh : h = h' := rh
  subst rh
  split at q3
  · rename_i ds e1
    obtain ⟨p, xs, rfl, h1, h2⟩ := seqL_ok sa3 ((rd.stp st2).stp st3) e1
    refine ⟨p, xs, rfl, h1, fun n hn => ?_⟩
    have st4 := Stp.tok sa3 (o := .lst (cutV xs l h)) hn
    refine q3 (.ref n) (Y.tok n (.lst (cutV xs l h))) st4 (sa3.tok hn (q := .lst (cutD ds l h)) ⟨_, upd_same, (cut_reps h2 l h).stp st4⟩) (.loc ?_)
    show (Y.i ++ [n])[m3.length]? = some n
    rw [← sa3.len, List.getElem?_append_right (Nat.le_refl _), Nat.sub_self]
    rfl
  · exact q3.elim
end
end DL

namespace DL
open PySem PySem.Spec PyProof.Rows L2
variable [LamTab]
/-! ### a built-in called with keywords -/
section
variable {X : Cx}
def OCK (X : Cx) (f : Value) (ks : List Str) (g : List D → List D → Mu → Res D) : Prop :=
  ∀ (pins : List (Addr × Obj)) (s : Shared) (σ : L2.St) (S : Wd) (m : Mu) (ds dz : List D) (xs zs : List V) (us ws : List Value) (Q : VK), Sta X.K S m → Reps X.K S.i S.F ds xs → Reps X.K S.i S.F dz zs → Vals xs us → Vals zs ws → Inv X pins σ S.H s →
    PostD X.K S (g ds dz m) Q (fun c d H => Fly X c d σ H) → wpAny (model X.prog X.w) X.A (call f us (ks.zip ws)) (EP X pins σ Q) X.xe s
def dFunBK (g : List D → List D → Mu → Res D) (t u : DA) : DE := fun e m => (t e m).bind fun ds m1 => (u e m1).bind fun zs m2 => g ds zs m2
@[simp ↓] theorem dFunBK_ap (g : List D → List D → Mu → Res D) (t u : DA) (e : En) (m : Mu) : dFunBK g t u e m = (t e m).bind fun ds m1 => (u e m1).bind fun zs m2 => g ds zs m2 := rfl
theorem pd_bck {x : Str} {p pos : Pos} {e : Expr} {es : List Expr} {kws : List Keyword} {t tk : DA} {id : String} {ks : List Str} {g : List D → List D → Mu → Res D} (ho : OCK X (.builtin id) ks g) (hm : X.mg x = none) (hv : bootBuiltins x = some (.builtin id)) (ha : PDA X (e :: es) t) (hkw : PDK X kws tk) (hg : Gl X x := by rfl) (hn : x ≠ "__name__" := by decide) (hdb : (x == ("__debug__" : Str)) = false := by decide)
    (he : backTo pos (starEach (e :: es) X.env) = (false, eval e X.env) :: backTo pos (starEach es X.env) := by rfl) (hpl : (backTo pos (starEach (e :: es) X.env)).any (·.1) = false := by rfl)
    (hall : (backToKw pos (keywordEach kws X.env)).all (·.1.isSome) = true := by rfl) (hnone : (backToKw pos (keywordEach kws X.env)).any (·.1.isNone) = false := by rfl) (hks : (backToKw pos (keywordEach kws X.env)).filterMap (·.1) = ks := by rfl) :
    PDE X (.Call (.Name x p) (e :: es) kws pos) (dFunBK g t tk) := by
  intro S r m σ Q sa re q pins s I
  refine wpAny_Call_Name_kw (ld_blt I hg hm hv ?_ hn hdb)
  refine PyProof.Rows.callWith_kw (thn (ha.run sa re q I pos) ?_) he hpl hall hnone
  rintro us s1 ⟨xs, ds, m1, T, st, sa1, rds, rv, I1, q1⟩
  refine thn (hkw.run sa1 (re.stp st) q1 I1 pos) ?_
  rintro ws s2 ⟨zs, dz, m2, U, st2, sa2, rdz, rz, I2, q2⟩
  rw [hks]
  exact ho pins s2 σ U m2 ds dz xs zs us ws Q sa2 (rds.stp st2) rdz rv rz I2 q2
/-! ### min(xs, default=d), xs whole numbers -/
def gMinDf : List D → List D → Mu → Res D := fun ds zs m => match ds, zs with
  | [d], [z] => match (seqL m d).bind toIs with
    | some [] => .ok z m
    | some (n :: ns) => .ok (.int (minI (n :: ns))) m
    | none => .stuck
  | _, _ => .stuck
@[simp] theorem gMinDf_ap (d z : D) (m : Mu) : gMinDf [d] [z] m = match (seqL m d).bind toIs with
    | some [] => .ok z m
    | some (n :: ns) => .ok (.int (minI (n :: ns))) m
    | none => .stuck := rfl
theorem foldl_min : ∀ (ns : List Int) (n : Int), ns.foldl min n ∈ n :: ns ∧ ∀ y ∈ n :: ns, ns.foldl min n ≤ y
  | [], n => by simp
  | a :: ns, n => by
    obtain ⟨h1, h2⟩ := foldl_min ns (min n a)
    rw [List.foldl_cons]
    refine ⟨?_, fun y hy => ?_⟩
    · rcases List.mem_cons.mp h1 with e | e
      · rw [e]
        rcases Int.le_total n a with z | z
        · rw [Int.min_eq_left z]; simp
        · rw [Int.min_eq_right z]; simp
      · simp [e]
    · have h3 := h2 (min n a) (by simp)
      have m1 := Int.min_le_left n a
      have m2 := Int.min_le_right n a
      rcases List.mem_cons.mp hy with e | hy
      · rw [e]; omega
      · rcases List.mem_cons.mp hy with e | hy
        · rw [e]; omega
        · exact h2 y (by simp [hy])
theorem foldl_minI (n : Int) (ns : List Int) : ns.foldl min n = minI (n :: ns) := by
  obtain ⟨h1, h2⟩ := foldl_min ns n
  obtain ⟨k1, k2⟩ := minI_ok (ns := n :: ns) (Nat.succ_pos _)
  have := h2 _ k1
  have := k2 _ h1
  omega
theorem alike_ints (ns : List Int) : PySem.W.AlikeAll (ns.map .int) := by
  constructor
  · intro x hx y hy
    obtain ⟨a, _, rfl⟩ := List.mem_map.mp hx
    obtain ⟨b, _, rfl⟩ := List.mem_map.mp hy
    rfl
  · intro x hx e
    obtain ⟨a, _, rfl⟩ := List.mem_map.mp hx
    cases e
theorem ock_minDf (hc : X.calm = true) (hu : X.A.units + 64 < cLine) : OCK X (.builtin "min") [Str.ofString "default"] gMinDf := by
  intro pins s σ S m ds dz xs zs us ws Q sa rs rz rv rw' I p
  unfold gMinDf at p
  split at p
  · rename_i d z
    cases q : seqL m d with
    | none => rw [q] at p; exact (show False from p).elim
    | some es =>
      rw [q] at p
      cases q2 : toIs es with
      | none => rw [show (some es).bind toIs = toIs es from rfl, q2] at p; exact (show False from p).elim
      | some bs =>
        rw [show (some es).bind toIs = toIs es from rfl, q2] at p
        obtain ⟨v, rfl, r⟩ := reps1 rs
        obtain ⟨zv, rfl, r2⟩ := reps1 rz
        obtain ⟨a, ys, rfl, h1, h2⟩ := seqL_ok sa r q
        have := toIs_ok h2 q2
        subst this
        obtain ⟨its, rvs, hl, _⟩ := I.list h1
        obtain rfl := Vals.ref1 rv
        obtain ⟨w1, rfl, e1⟩ := vals1 rw'
        refine PySem.W.min_list_default (xs := bs.map .int) (I.ok.hd hc) hl.isList (by simpa using rvs.ints.reads s.heap) (alike_ints bs) (by rw [depthAll_ints]; omega) (fun hb h' tk hk => ?_) fun y ys i v h' tk bs' hxs hv hr hk => ?_
        · obtain rfl : bs = [] := by simpa using hb
          exact ⟨zv, S.H, I.kept hk, e1, Post.ok p (Stp.refl S) sa r2⟩
        · cases bs with
          | nil => cases hxs
          | cons n ns =>
            rw [List.map_cons] at hxs
            cases hxs
            rw [PySem.W.minD_ints, foldl_minI] at hr
            cases hr with
            | int i t => exact ⟨.int _, S.H, I.kept hk, ⟨_, rfl⟩, Post.ok p (Stp.refl S) sa (.int _)⟩
  · exact p.elim
end
end DL

namespace DL
open PySem PySem.Spec L2
variable [LamTab]
section
variable {rows : List (Kl × DFn × List Tg)} {m : Mu} {n : Nat}
theorem insOf_seqL {x : D} {xs : List D} (h : seqL m x = some xs) : insOf m x = none := by
  unfold seqL at h
  split at h
  · rfl
  · split at h
    · rename_i e
      simp only [insOf, e]
    · cases h
  · cases h
theorem eqX_seq {x y : D} {xs ys : List D} (hx : seqL m x = some xs) (hy : seqL m y = some ys) : eqX rows m (n + 1) x y = if xs.length = ys.length then eqXs (eqI (eqX rows m n)) xs ys else some false := by
  rw [eqX.eq_def]
  simp only [insOf_seqL hx, hx, hy]
theorem seqL_at {k : Nat} {ds : List D} (h : m[k]? = some (.lst ds)) : seqL m (.loc k) = some ds := by
  simp only [seqL, h]
theorem eqX_nil {x : D} {xs : List D} (hx : seqL m x = some xs) : eqX rows m (n + 1) x (.lst []) = some (decide (xs = [])) := by
  rw [eqX_seq hx (ys := []) rfl]
  cases xs with
  | nil => rfl
  | cons a t => simp
theorem eqX_smap {α : Type} [DecidableEq α] {F : α → D} {as bs : List α} {x y : D} (hx : seqL m x = some (as.map F)) (hy : seqL m y = some (bs.map F)) (hi : ∀ a ∈ as, ∀ b ∈ bs, F a = F b → a = b) (hs : ∀ a, solid (F a) = true) (h : ∀ a ∈ as, ∀ b ∈ bs, eqX rows m n (F a) (F b) = some (decide (a = b))) :
    eqX rows m (n + 1) x y = some (decide (as = bs)) := by
  rw [eqX_seq hx hy]
  by_cases hl : as.length = bs.length
  · rw [if_pos (by simpa using hl), eqXs_map (fun a ha b hb => eqI_map (hi a ha b hb) (hs a) (hs b) (h a ha b hb)) hl]
  · rw [if_neg (by simpa using hl)]
    have : ¬ as = bs := fun e => hl (by rw [e])
    simp [this]
theorem gEqX_nil {neg : Bool} {x : D} {xs : List D} (hx : seqL m x = some xs) : gEqX neg rows 5 x (.lst []) m = .ok (.bl (neg ^^ decide (xs = []))) m := gEqX_of (eqX_nil hx)
theorem gNeX_nil {x : D} {xs : List D} (hx : seqL m x = some xs) : gNeX rows 5 x (.lst []) m = .ok (.bl (!decide (xs = []))) m := gNeX_of (insOf_seqL hx) (eqX_nil hx)
end
end DL
namespace DL
open PySem PySem.Spec L2
variable [LamTab]
section
variable {m : Mu} {g : DG} {c : DT} {b : DE} {e : En}
/-- a comprehension over data that are told by items -/
theorem compL_of {α : Type} {F f : α → D} {p : α → Bool} : ∀ (xs : List α) (acc : List D), (∀ x ∈ xs, ∃ e1, g (F x) e = some e1 ∧ c e1 m = .ok (p x) m ∧ (p x = true → b e1 m = .ok (f x) m)) → acc.length + xs.length ≤ sizeLine →
    dCompL g c b e (xs.map F) m acc = .ok (acc ++ (xs.filter p).map f) m
  | [], acc, _, _ => by simp
  | x :: xs, acc, h, hl => by
    obtain ⟨e1, h1, h2, h3⟩ := h x (by simp)
    rw [List.map_cons]
    unfold dCompL
    rw [h1]
    simp only [h2]
    cases hp : p x with
    | true =>
      have ih := compL_of xs (acc ++ [f x]) (fun y hy => h y (by simp [hy])) (by simp at hl ⊢; omega)
      simp only [h3 hp]
      rw [if_pos (by simp at hl; omega), ih]
      simp [hp]
    | false =>
      have ih := compL_of xs acc (fun y hy => h y (by simp [hy])) (by simp at hl ⊢; omega)
      simp only []
      rw [ih]
      simp [hp]
theorem compG_of {α : Type} {gd : Mu → Prop} (hg : gd m) {F f : α → D} {p : α → Bool} : ∀ (xs : List α) (acc : List D), (∀ x ∈ xs, ∃ e1, g (F x) e = some e1 ∧ c e1 m = .ok (p x) m ∧ (p x = true → b e1 m = .ok (f x) m)) → acc.length + xs.length ≤ sizeLine →
    dCompG gd g c b e (xs.map F) m acc = .ok (acc ++ (xs.filter p).map f) m
  | [], acc, _, _ => by unfold dCompG; simp [hg]
  | x :: xs, acc, h, hl => by
    obtain ⟨e1, h1, h2, h3⟩ := h x (by simp)
    rw [List.map_cons]
    unfold dCompG
    rw [if_pos hg]
    simp only [h1, h2]
    cases hp : p x with
    | true =>
      have ih := compG_of hg xs (acc ++ [f x]) (fun y hy => h y (by simp [hy])) (by simp at hl ⊢; omega)
      simp only [h3 hp]
      rw [if_pos (by simp at hl; omega), ih]
      simp [hp]
    | false =>
      have ih := compG_of hg xs acc (fun y hy => h y (by simp [hy])) (by simp at hl ⊢; omega)
      simp only []
      rw [ih]
      simp [hp]
theorem compS_of {α : Type} {fin : List D → Mu → Res D} {n : Nat} {xs : List α} {F f : α → D} {p : α → Bool} (hn : m[n]? = some (.lst (xs.map F))) (h : ∀ x ∈ xs, ∃ e1, g (F x) e = some e1 ∧ c e1 m = .ok (p x) m ∧ (p x = true → b e1 m = .ok (f x) m)) (hl : xs.length ≤ sizeLine) :
    comp1 fin g c b e (.loc n) m = fin ((xs.filter p).map f) m := by
  unfold comp1
  simp only [hn]
  rw [compG_of hn xs [] h (by simpa using hl)]
  simp
end
end DL
namespace DL
variable [LamTab]
theorem dLoop_step {g : DG} {b : DS} {d : D} {ds : List D} {e e1 e2 : En} {m m2 : Mu} (h1 : g d e = some e1) (h2 : b e1 m = .nx e2 m2) : dLoop g b (d :: ds) e m = dLoop g b ds e2 m2 := by
  rw [dLoop.eq_def]
  simp only [h1, h2]
end DL
namespace DL
open PySem PySem.Spec L2
variable [LamTab]
theorem dNeg_of {C : Addr} {G : DFn} {t : DE} {e : En} {m m1 : Mu} {d : D} {ns : List Str} {ds : List D} (h : t e m = .ok d m1) (hi : insOf m1 d = some (C, ns, ds)) : dNeg C G t e m = G [d] m1 := by
  unfold dNeg
  rw [h]
  cases d with
  | int i => cases hi
  | _ => simp only [Res.bind_ok, hi, if_true]
end DL

namespace DL
open PySem PySem.Spec PyProof.Rows L2
variable [LamTab]
theorem DefK.funD {K : PySem.W.Frag} {d : DefK} (e : fnK K (d.ad.at_ K) = d.seen) (c : d.okB K = true) : ∃ fd, FunD K d.name d.qual d.params d.body d.scope d.dfl [] (d.ad.at_ K) fd := by
  obtain ⟨kp, c1⟩ := He.ba c
  unfold fnK at e
  cases q : K.lookup (d.ad.at_ K) with
  | none => rw [q] at c1; cases c1
  | some o =>
    obtain ⟨oc, od, dt, osl⟩ := o
    rw [q] at c1 e
    cases dt with
    | func g =>
      obtain ⟨m1, m2, m3, m4, m5, m6, m7, m8, m9, m10, m11, m12, m13, m14, m15⟩ := g
      have z : (some (m1, m2, m3, m4, m5, m6, m7, m15) : FnK) = some (d.name, d.qual, d.params, .stmts d.body, d.scope, mainGlobals, [], builtinsNs) := e
      simp only [Option.some.injEq, Prod.mk.injEq] at z
      obtain ⟨a1, a2, a3, a4, a5, a6, a7, a8⟩ := z
      subst a1 a2 a3 a4 a5 a6 a7 a8
      obtain ⟨k1, k2⟩ := He.ba (show (PySem.W.codeIn K m13 d.qual && He.dflB K m8 d.dfl) = true from c1)
      exact ⟨_, ⟨oc, od, m8, m9, m10, m11, m12, m13, m14, osl, rfl, q, k1, He.dflB_ok k2, .inl rfl⟩, kp⟩
    | _ => cases c1
section
variable {fs : List (PySem.W.Frag → Bool)} {ds : List DefK} {K : PySem.W.Frag}
theorem SaysK.fact (c : SaysK fs ds K) (i : Nat) {f : PySem.W.Frag → Bool} (h : fs[i]? = some f := by rfl) : f K = true :=
  List.all_eq_true.mp (He.ba (show ((fs.all fun f => f K) && ds.all fun d => d.okB K) = true from congrArg Prod.fst c)).1 f (List.mem_of_getElem? h)
theorem SaysK.df (c : SaysK fs ds K) (i : Nat) {d : DefK} (h : ds[i]? = some d := by rfl) : ∃ fd, FunD K d.name d.qual d.params d.body d.scope d.dfl [] (d.ad.at_ K) fd := by
  have c2 := (He.ba (show ((fs.all fun f => f K) && ds.all fun d => d.okB K) = true from congrArg Prod.fst c)).2
  have e : (ds.map fun d => fnK K (d.ad.at_ K))[i]? = (ds.map DefK.seen)[i]? := congrArg (fun z : AlK => z.2[i]?) c
  rw [List.getElem?_map, List.getElem?_map, h] at e
  exact DefK.funD (Option.some.inj e) (List.all_eq_true.mp c2 d (List.mem_of_getElem? h))
end
/-- the law's end over a head that is read by names -/
theorem walk_ofK {l : PySem.W.OpenLaw} {n k : Nat} {q : Program} {loose : List Str} {XP : (Str → Option Value) → Heap → Prop} {YP : World → Heap → Prop} {d : DefRec} {x : Str}
    (hn : l.most = some n) (hn2 : n ≤ sizeLine) (hdf : d.params.defaults = []) (hr : Room k callerA)
    (F : ∀ (w : World) (mg : Str → Option Value) (fa : Addr) (h : Heap), YP w h → h.Ns mainGlobals mg → mg d.name = some (.ref fa) →
      ∃ (K : PySem.W.Frag) (fd : FuncData) (sp : Sp), K.In h ∧ (∀ (s : Shared) (u : Value), BindsTo s fd ⟨[u], []⟩ [(x, u)]) ∧
        (∀ (H : Hp) (a : Addr) (ns : List Int), ns.length ≤ n → SqL K H a (ns.map V.int) → sp [.ref a] H (fun v _ => v = .bl true) fun _ _ _ => False) ∧
        ∀ base : Heap, K.In base → base.Ns mainGlobals mg → FnOk l.prog w K mg base (L2.CX l.prog w) k fa fd [x] sp) :
    PySem.W.WalkO q loose XP YP l.row.toRowW d [] (fun f vs => PySem.call f vs) := by
  refine Att.attach_call hn hdf fun w s0 s1 mg mb fa o pm cd doc a vs ns G Y ho hd hcd hmg hobj hints hlen hg => ?_
  obtain ⟨K, fd, sp, KX, hb, hsp, hF⟩ := F w mg fa _ Y G.T.g hmg
  refine law_call KX G.T.g G.T.b G.T.builtins G.T.nolimit hg hobj hints (Nat.le_trans hlen hn2) hr hF hb (fun H _ hS => hsp H a ns hlen hS) fun H e s' z => nofly z
end DL

namespace W
open PySem DL
instance : LamTab := ⟨fun _ => ⟨Str.empty, ⟨[], [], none, [], [], none, []⟩, .Constant .none 0 ⟨0, 0, 0, 0⟩, default, [], [], []⟩, fun _ => []⟩

/-- where the classes stand -/
structure Cs where
  cArc : Addr
  cRatio : Addr

/-- different classes stand at different places -/
def Cs.Ok (c : Cs) : Prop := c.cArc ≠ c.cRatio ∧ True

def nsArc : List Str := ["own_start", "own_width"]
abbrev Cs.kArc (c : Cs) : Kl := ⟨c.cArc, nsArc⟩

def nsRatio : List Str := ["own_top", "own_bottom"]
abbrev Cs.kRatio (c : Cs) : Kl := ⟨c.cRatio, nsRatio⟩

def ans_Arc__Arc (c : Cs) : Ans := ⟨[], [(c.cArc, true)]⟩

def ans_Ratio__Ratio (c : Cs) : Ans := ⟨[], [(c.cRatio, true)]⟩

def ans_bool (c : Cs) : Ans := ⟨["bool"], []⟩

def ans_int (c : Cs) : Ans := ⟨["int", "bool"], []⟩

def ans_list (c : Cs) : Ans := ⟨["list"], []⟩

def ans_list_tuple (c : Cs) : Ans := ⟨["list", "tuple"], []⟩

def ans_str (c : Cs) : Ans := ⟨["str"], []⟩

def ans_tuple (c : Cs) : Ans := ⟨["tuple"], []⟩

/-- _law_begin (0 _law_script) -/
noncomputable def F_w_begin (c : Cs) : DFn := dFn 1 (dRet (dLoc (dCons (dFun gList (dCons (dSl (dVar 0) dNoPart (dPart (dC (.int 63)))) dNil)) (dCons (dC (.int 0)) (dCons (dC (.int 0)) (dCons (dBin gAdd (dC (.int 100050)) (dBin gMul (dC (.int 17)) (dFun gLen (dCons (dSl (dVar 0) dNoPart (dPart (dC (.int 63)))) dNil)))) dNil))))))

/-- _law_take (0 _law_bag, 1 _law_many, 2 _law_cell, 3 _law_digit, 4 _law_old) -/
noncomputable def F_w_take (c : Cs) : DFn := dFn 5 (dSeq (dIfS (dAndT (dTst (dBin gEq (dBin gIx (dVar 0) (dC (.int 2))) (dC (.int 0)))) (dTst (dBin gLt (dBin gIx (dVar 0) (dC (.int 1))) (dFun gLen (dCons (dBin gIx (dVar 0) (dC (.int 0))) dNil))))) (dSeq (dSet 2 (dFun gAbs (dCons (dBin gIx (dBin gIx (dVar 0) (dC (.int 0))) (dBin gIx (dVar 0) (dC (.int 1)))) dNil))) (dSeq (dPutI (dBin gAdd (dBin gIx (dVar 0) (dC (.int 1))) (dC (.int 1))) (dVar 0) (dC (.int 1))) (dIfS (dTst (dBin gGe (dVar 2) (dBin gPow (dC (.int 10)) (dC (.int 18))))) (dPutI (dVar 2) (dVar 0) (dC (.int 2))) (dPutI (dBin gMod (dFun gInt (dCons (dBin gAdd (dBin gAdd (dBin gMul (dBin gIx (dVar 0) (dC (.int 3))) (dC (.int 36919))) (dBin gMul (dBin gMod (dFun gInt (dCons (dVar 2) dNil)) (dC (.int 2147483563))) (dC (.int 7919)))) (dBin gIx (dVar 0) (dC (.int 1)))) dNil)) (dC (.int 2147483629))) (dVar 0) (dC (.int 3)))))) dSkip) (dSeq (dIfS (dTst (dBin gGt (dBin gIx (dVar 0) (dC (.int 2))) (dC (.int 0)))) (dSeq (dSet 3 (dBin gMod (dFun gInt (dCons (dBin gIx (dVar 0) (dC (.int 2))) dNil)) (dVar 1))) (dSeq (dPutI (dBin gDiv (dBin gIx (dVar 0) (dC (.int 2))) (dVar 1)) (dVar 0) (dC (.int 2))) (dRet (dVar 3)))) dSkip) (dSeq (dSet 4 (dBin gIx (dVar 0) (dC (.int 3)))) (dSeq (dPutI (dBin gMod (dFun gInt (dCons (dBin gAdd (dBin gAdd (dBin gMul (dVar 4) (dVar 4)) (dBin gMul (dVar 4) (dC (.int 29423)))) (dC (.int 90001))) dNil)) (dC (.int 2147483647))) (dVar 0) (dC (.int 3))) (dRet (dBin gMod (dFun gInt (dCons (dBin gAdd (dBin gDiv (dBin gIx (dVar 0) (dC (.int 3))) (dC (.int 53))) (dBin gMul (dBin gMod (dFun gInt (dCons (dBin gIx (dVar 0) (dC (.int 3))) dNil)) (dC (.int 7907))) (dC (.int 179)))) dNil)) (dVar 1)))))))

/-- is_ratio (0 value) -/
noncomputable def F_is_ratio (c : Cs) : DFn := dFn 1 (dRet (dIsi (ans_Ratio__Ratio c) (dVar 0)))

/-- is_whole (0 value) -/
noncomputable def F_is_whole (c : Cs) : DFn := dFn 1 (dRet (dAnd (dIsi (ans_int c) (dVar 0)) (dNot (dIsi (ans_bool c) (dVar 0)))))

noncomputable def T_common_divisor_1 (c : Cs) : DT := (dTst (dBin gNe (dVar 1) (dC (.int 0))))
theorem T_common_divisor_1_ap (c : Cs) (e : En) (m : Mu) : T_common_divisor_1 c e m = (dTst (dBin gNe (dVar 1) (dC (.int 0)))) e m := rfl

noncomputable def B_common_divisor_1 (c : Cs) : DS := (dPar 0 1 (dCons (dVar 1) (dCons (dBin gMod (dVar 0) (dVar 1)) dNil)))
theorem B_common_divisor_1_ap (c : Cs) (e : En) (m : Mu) : B_common_divisor_1 c e m = (dPar 0 1 (dCons (dVar 1) (dCons (dBin gMod (dVar 0) (dVar 1)) dNil))) e m := rfl

/-- common_divisor (0 one, 1 other) -/
noncomputable def F_common_divisor (c : Cs) : DFn := dFn 2 (dSeq (dWhile (T_common_divisor_1 c) (B_common_divisor_1 c)) (dRet (dVar 0)))

/-- Ratio.__init__ (0 self, 1 top, 2 bottom, 3 divisor) -/
noncomputable def F_RatioD_initD (c : Cs) : DFn := dFn 4 (dSeq (dIfS (dOrT (dNotT (dTst (dFun (padF 1 [] (F_is_whole c)) (dCons (dVar 1) dNil)))) (dOrT (dNotT (dTst (dFun (padF 1 [] (F_is_whole c)) (dCons (dVar 2) dNil)))) (dTst (dBin gEq (dVar 2) (dC (.int 0)))))) dStuck dSkip) (dSeq (dSet 3 (dFun (padF 2 [] (F_common_divisor c)) (dCons (dFun gAbs (dCons (dVar 1) dNil)) (dCons (dFun gAbs (dCons (dVar 2) dNil)) dNil)))) (dSeq (dSet 3 (dIf (dTst (dBin gLt (dVar 2) (dC (.int 0)))) (dNegI (dVar 3)) (dVar 3))) (dSeq (dPutF [c.cRatio] "own_top" (dBin gDiv (dVar 1) (dVar 3)) (dVar 0)) (dPutF [c.cRatio] "own_bottom" (dBin gDiv (dVar 2) (dVar 3)) (dVar 0))))))

/-- Ratio.bottom (0 self) -/
noncomputable def F_Ratio_bottom (c : Cs) : DFn := dFn 1 (dRet (dFld [(c.kRatio, 1)] (dVar 0)))

/-- Ratio.top (0 self) -/
noncomputable def F_Ratio_top (c : Cs) : DFn := dFn 1 (dRet (dFld [(c.kRatio, 0)] (dVar 0)))

/-- Ratio.is_below (0 self, 1 other) -/
noncomputable def F_Ratio_is_below (c : Cs) : DFn := dFn 2 (dRet (dBin gLt (dBin gMul (dFld [(c.kRatio, 0)] (dVar 0)) (dProp [(c.kRatio, padF 1 [] (F_Ratio_bottom c))] (dVar 1))) (dBin gMul (dProp [(c.kRatio, padF 1 [] (F_Ratio_top c))] (dVar 1)) (dFld [(c.kRatio, 1)] (dVar 0)))))

/-- is_between (0 value, 1 low, 2 high) -/
noncomputable def F_is_between (c : Cs) : DFn := dFn 3 (dSeq (dIfS (dOrT (dNotT (dTst (dIsi (ans_Ratio__Ratio c) (dVar 0)))) (dTst (dMeth [(c.kRatio, padF 2 [] (F_Ratio_is_below c))] (dVar 0) (dCons (dMake c.cRatio (padF 3 [.int 1] (F_RatioD_initD c)) (dCons (dVar 1) dNil)) dNil)))) (dRet (dC (.bl false))) dSkip) (dRet (dOr (dBin gIsN (dVar 2) (dC .non)) (dNot (dMeth [(c.kRatio, padF 2 [] (F_Ratio_is_below c))] (dMake c.cRatio (padF 3 [.int 1] (F_RatioD_initD c)) (dCons (dVar 2) dNil)) (dCons (dVar 0) dNil))))))

/-- Ratio.moment (0 self) -/
noncomputable def F_Ratio_moment (c : Cs) : DFn := dFn 1 (dRet (dMake c.cRatio (padF 3 [] (F_RatioD_initD c)) (dCons (dBin gMod (dFld [(c.kRatio, 0)] (dVar 0)) (dFld [(c.kRatio, 1)] (dVar 0))) (dCons (dFld [(c.kRatio, 1)] (dVar 0)) dNil))))

/-- Arc.__init__ (0 self, 1 start, 2 width) -/
noncomputable def F_ArcD_initD (c : Cs) : DFn := dFn 3 (dSeq (dIfS (dOrT (dNotT (dTst (dFun (padF 1 [] (F_is_ratio c)) (dCons (dVar 1) dNil)))) (dNotT (dTst (dFun (padF 3 [] (F_is_between c)) (dCons (dVar 2) (dCons (dC (.int 0)) (dCons (dC (.int 1)) dNil))))))) dStuck dSkip) (dSeq (dPutF [c.cArc] "own_start" (dMeth [(c.kRatio, padF 1 [] (F_Ratio_moment c))] (dVar 1) dNil) (dVar 0)) (dPutF [c.cArc] "own_width" (dVar 2) (dVar 0))))

noncomputable def C_w_choices_1 (c : Cs) : DE := (dBin gCat (dVar 3) (dLst (dCons (dVar 2) dNil)))
theorem C_w_choices_1_ap (c : Cs) (e : En) (m : Mu) : C_w_choices_1 c e m = (dBin gCat (dVar 3) (dLst (dCons (dVar 2) dNil))) e m := rfl

noncomputable def B_w_choices_1 (c : Cs) : DS := (dSet 1 (dBin gCat (dVar 1) (dComp (dItL (dVar 1)) (dName 3) dYes (C_w_choices_1 c) [3])))
theorem B_w_choices_1_ap (c : Cs) (e : En) (m : Mu) : B_w_choices_1 c e m = (dSet 1 (dBin gCat (dVar 1) (dComp (dItL (dVar 1)) (dName 3) dYes (C_w_choices_1 c) [3]))) e m := rfl

/-- _law_choices (0 _law_some, 1 _law_found, 2 _law_item, 3 _law_row) -/
noncomputable def F_w_choices (c : Cs) : DFn := dFn 4 (dSeq (dSet 1 (dLst (dCons (dLst dNil) dNil))) (dSeq (dFor (dItL (dVar 0)) (dName 2) (B_w_choices_1 c)) (dRet (dVar 1))))

/-- _law_is_in (0 _law_spot, 1 _law_start, 2 _law_width, 3 _law_whole) -/
noncomputable def F_w_is_in (c : Cs) : DFn := dFn 4 (dRet (dBin gLe (dBin gMod (dFun gInt (dCons (dBin gSub (dVar 0) (dVar 1)) dNil)) (dVar 3)) (dVar 2)))

/-- Arc.width (0 self) -/
noncomputable def F_Arc_width (c : Cs) : DFn := dFn 1 (dRet (dFld [(c.kArc, 1)] (dVar 0)))

/-- Arc.start (0 self) -/
noncomputable def F_Arc_start (c : Cs) : DFn := dFn 1 (dRet (dFld [(c.kArc, 0)] (dVar 0)))

/-- Ratio.__add__ (0 self, 1 other) -/
noncomputable def F_RatioD_addD (c : Cs) : DFn := dFn 2 (dRet (dMake c.cRatio (padF 3 [] (F_RatioD_initD c)) (dCons (dBin gAdd (dBin gMul (dFld [(c.kRatio, 0)] (dVar 0)) (dProp [(c.kRatio, padF 1 [] (F_Ratio_bottom c))] (dVar 1))) (dBin gMul (dProp [(c.kRatio, padF 1 [] (F_Ratio_top c))] (dVar 1)) (dFld [(c.kRatio, 1)] (dVar 0)))) (dCons (dBin gMul (dFld [(c.kRatio, 1)] (dVar 0)) (dProp [(c.kRatio, padF 1 [] (F_Ratio_bottom c))] (dVar 1))) dNil))))

/-- Ratio.__sub__ (0 self, 1 other) -/
noncomputable def F_RatioD_subD (c : Cs) : DFn := dFn 2 (dRet (dMake c.cRatio (padF 3 [] (F_RatioD_initD c)) (dCons (dBin gSub (dBin gMul (dFld [(c.kRatio, 0)] (dVar 0)) (dProp [(c.kRatio, padF 1 [] (F_Ratio_bottom c))] (dVar 1))) (dBin gMul (dProp [(c.kRatio, padF 1 [] (F_Ratio_top c))] (dVar 1)) (dFld [(c.kRatio, 1)] (dVar 0)))) (dCons (dBin gMul (dFld [(c.kRatio, 1)] (dVar 0)) (dProp [(c.kRatio, padF 1 [] (F_Ratio_bottom c))] (dVar 1))) dNil))))

/-- Arc.offset (0 self, 1 moment) -/
noncomputable def F_Arc_offset (c : Cs) : DFn := dFn 2 (dRet (dMeth [(c.kRatio, padF 1 [] (F_Ratio_moment c))] (dBin (dOwn2 c.cRatio (padF 2 [] (F_RatioD_subD c))) (dVar 1) (dFld [(c.kArc, 0)] (dVar 0))) dNil))

/-- Ratio.__bool__ (0 self) -/
noncomputable def F_RatioD_boolD (c : Cs) : DFn := dFn 1 (dRet (dFun gBool (dCons (dFld [(c.kRatio, 0)] (dVar 0)) dNil)))

noncomputable def B_cover_from_1 (c : Cs) : DS := (dSeq (dSet 7 (dBin (dOwn2 c.cRatio (padF 2 [] (F_RatioD_subD c))) (dProp [(c.kArc, padF 1 [] (F_Arc_width c))] (dVar 6)) (dMeth [(c.kArc, padF 2 [] (F_Arc_offset c))] (dVar 6) (dCons (dVar 4) dNil)))) (dSet 5 (dIf (dTst (dMeth [(c.kRatio, padF 2 [] (F_Ratio_is_below c))] (dVar 5) (dCons (dVar 7) dNil))) (dVar 7) (dVar 5))))
theorem B_cover_from_1_ap (c : Cs) (e : En) (m : Mu) : B_cover_from_1 c e m = (dSeq (dSet 7 (dBin (dOwn2 c.cRatio (padF 2 [] (F_RatioD_subD c))) (dProp [(c.kArc, padF 1 [] (F_Arc_width c))] (dVar 6)) (dMeth [(c.kArc, padF 2 [] (F_Arc_offset c))] (dVar 6) (dCons (dVar 4) dNil)))) (dSet 5 (dIf (dTst (dMeth [(c.kRatio, padF 2 [] (F_Ratio_is_below c))] (dVar 5) (dCons (dVar 7) dNil))) (dVar 7) (dVar 5)))) e m := rfl

noncomputable def B_cover_from_2 (c : Cs) : DS := (dSeq (dIfS (dNotT (dTst (dMeth [(c.kRatio, padF 2 [] (F_Ratio_is_below c))] (dVar 2) (dCons (dMake c.cRatio (padF 3 [.int 1] (F_RatioD_initD c)) (dCons (dC (.int 1)) dNil)) dNil)))) (dRet (dVar 3)) dSkip) (dSeq (dPar 4 5 (dCons (dBin (dOwn2 c.cRatio (padF 2 [] (F_RatioD_addD c))) (dProp [(c.kArc, padF 1 [] (F_Arc_start c))] (dVar 1)) (dVar 2)) (dCons (dMake c.cRatio (padF 3 [.int 1] (F_RatioD_initD c)) (dCons (dC (.int 0)) dNil)) dNil))) (dSeq (dFor (orA (dItL (dVar 0)) (dItT (dVar 0))) (dName 6) (B_cover_from_1 c)) (dSeq (dIfS (dNotT (dTrO [(c.kRatio, (padF 1 [] (F_RatioD_boolD c)))] (dVar 5))) (dRet (dC .non)) dSkip) (dSet 2 (dBin (dOwn2 c.cRatio (padF 2 [] (F_RatioD_addD c))) (dVar 2) (dVar 5)))))))
theorem B_cover_from_2_ap (c : Cs) (e : En) (m : Mu) : B_cover_from_2 c e m = (dSeq (dIfS (dNotT (dTst (dMeth [(c.kRatio, padF 2 [] (F_Ratio_is_below c))] (dVar 2) (dCons (dMake c.cRatio (padF 3 [.int 1] (F_RatioD_initD c)) (dCons (dC (.int 1)) dNil)) dNil)))) (dRet (dVar 3)) dSkip) (dSeq (dPar 4 5 (dCons (dBin (dOwn2 c.cRatio (padF 2 [] (F_RatioD_addD c))) (dProp [(c.kArc, padF 1 [] (F_Arc_start c))] (dVar 1)) (dVar 2)) (dCons (dMake c.cRatio (padF 3 [.int 1] (F_RatioD_initD c)) (dCons (dC (.int 0)) dNil)) dNil))) (dSeq (dFor (orA (dItL (dVar 0)) (dItT (dVar 0))) (dName 6) (B_cover_from_1 c)) (dSeq (dIfS (dNotT (dTrO [(c.kRatio, (padF 1 [] (F_RatioD_boolD c)))] (dVar 5))) (dRet (dC .non)) dSkip) (dSet 2 (dBin (dOwn2 c.cRatio (padF 2 [] (F_RatioD_addD c))) (dVar 2) (dVar 5))))))) e m := rfl

/-- cover_from (0 arcs, 1 first, 2 covered, 3 many, 4 spot, 5 best, 6 arc, 7 more) -/
noncomputable def F_cover_from (c : Cs) : DFn := dFn 8 (dSeq (dSet 2 (dProp [(c.kArc, padF 1 [] (F_Arc_width c))] (dVar 1))) (dSeq (dFor (dItR2 (dCons (dC (.int 1)) (dCons (dBin gAdd (dFun gLen (dCons (dVar 0) dNil)) (dC (.int 1))) dNil))) (dName 3) (B_cover_from_2 c)) (dRet (dC .non))))

noncomputable def C_fewest_cover_1 (c : Cs) : DE := (dFun (padF 2 [] (F_cover_from c)) (dCons (dVar 0) (dCons (dVar 2) dNil)))
theorem C_fewest_cover_1_ap (c : Cs) (e : En) (m : Mu) : C_fewest_cover_1 c e m = (dFun (padF 2 [] (F_cover_from c)) (dCons (dVar 0) (dCons (dVar 2) dNil))) e m := rfl

/-- fewest_cover (0 arcs, 1 found, 2 arc, 3 many) -/
noncomputable def F_fewest_cover (c : Cs) : DFn := dFn 4 (dSeq (dSet 1 (dComp (orA (dItL (dVar 0)) (dItT (dVar 0))) (dName 2) dYes (C_fewest_cover_1 c) [2])) (dRet (dFunBK gMinDf (dCons (dComp (dItL (dVar 1)) (dName 3) (dTst (dBin gNotN (dVar 3) (dC .non))) (dFun gInt (dCons (dVar 3) dNil)) [3]) dNil) (dCons (dC .non) dNil))))

noncomputable def GK_fewest_cover_0_arcs (c : Cs) : DFn := fun ds m => match pick [0] (ds ++ []) with
  | some xs => F_fewest_cover c xs m
  | none => .stuck

/-- _law_like (0 _law_found, 1 _law_due, 2 _law_one, 3 _law_two) -/
noncomputable def F_w_like (c : Cs) : Nat → DFn
  | 0 => fun _ _ => .stuck
  | n + 1 => dFn 4 (dSeq (dIfS (dOrT (dTst (dBin gIsN (dVar 1) (dC .non))) (dTst (dBin gIsN (dVar 0) (dC .non)))) (dRet (dAnd (dBin gIsN (dVar 1) (dC .non)) (dBin gIsN (dVar 0) (dC .non)))) dSkip) (dSeq (dIfS (dTst (dIsi (ans_list_tuple c) (dVar 1))) (dSeq (dIfS (dOrT (dTst (dBin gNe (dIsi (ans_list c) (dVar 0)) (dIsi (ans_list c) (dVar 1)))) (dTst (dBin gNe (dIsi (ans_tuple c) (dVar 0)) (dIsi (ans_tuple c) (dVar 1))))) (dRet (dC (.bl false))) dSkip) (dRet (dAnd (dBin gEq (dFun gLen (dCons (dVar 0) dNil)) (dFun gLen (dCons (dVar 1) dNil))) (dFun gAll (dCons (dComp (dItZ (dCons (dVar 0) (dCons (dVar 1) dNil))) (dTupG 2 (dGcons (dName 2) (dGcons (dName 3) dGnil))) dYes (dFun (padF 2 [] (F_w_like c n)) (dCons (dVar 2) (dCons (dVar 3) dNil))) [2, 3]) dNil))))) dSkip) (dSeq (dIfS (dOrT (dTst (dBin gNe (dIsi (ans_bool c) (dVar 0)) (dIsi (ans_bool c) (dVar 1)))) (dTst (dBin gNe (dIsi (ans_int c) (dVar 0)) (dIsi (ans_int c) (dVar 1))))) (dRet (dC (.bl false))) dSkip) (dRet (dAnd (dBin gEq (dIsi (ans_str c) (dVar 0)) (dIsi (ans_str c) (dVar 1))) (dBin gEq (dVar 0) (dVar 1)))))))

/-- Ratio.__eq__ (0 self, 1 other) -/
noncomputable def F_RatioD_eqD (c : Cs) : DFn := dFn 2 (dRet (dAnd (dIsi (ans_Ratio__Ratio c) (dVar 1)) (dAnd (dBin gEq (dFld [(c.kRatio, 0)] (dVar 0)) (dProp [(c.kRatio, padF 1 [] (F_Ratio_top c))] (dVar 1))) (dBin gEq (dFld [(c.kRatio, 1)] (dVar 0)) (dProp [(c.kRatio, padF 1 [] (F_Ratio_bottom c))] (dVar 1))))))

/-- Arc.__eq__ (0 self, 1 other) -/
noncomputable def F_ArcD_eqD (c : Cs) : DFn := dFn 2 (dRet (dAnd (dIsi (ans_Arc__Arc c) (dVar 1)) (dAnd (dBin (dOwnEq false [(c.kRatio, (padF 2 [] (F_RatioD_eqD c)), [(.own c.cRatio)])]) (dFld [(c.kArc, 0)] (dVar 0)) (dProp [(c.kArc, padF 1 [] (F_Arc_start c))] (dVar 1))) (dBin (dOwnEq false [(c.kRatio, (padF 2 [] (F_RatioD_eqD c)), [(.own c.cRatio)])]) (dFld [(c.kArc, 1)] (dVar 0)) (dProp [(c.kArc, padF 1 [] (F_Arc_width c))] (dVar 1))))))

noncomputable def C_law_1 (c : Cs) : DE := (dTup (dCons (dFun (padF 2 [] (F_w_take c)) (dCons (dVar 1) (dCons (dVar 3) dNil))) (dCons (dIf (dTst (dBin gGt (dFun (padF 2 [] (F_w_take c)) (dCons (dVar 1) (dCons (dC (.int 3)) dNil))) (dC (.int 0)))) (dFun (padF 2 [] (F_w_take c)) (dCons (dVar 1) (dCons (dBin gAdd (dVar 3) (dC (.int 1))) dNil))) (dBin gAdd (dBin gDiv (dVar 3) (dC (.int 2))) (dC (.int 1)))) dNil)))
theorem C_law_1_ap (c : Cs) (e : En) (m : Mu) : C_law_1 c e m = (dTup (dCons (dFun (padF 2 [] (F_w_take c)) (dCons (dVar 1) (dCons (dVar 3) dNil))) (dCons (dIf (dTst (dBin gGt (dFun (padF 2 [] (F_w_take c)) (dCons (dVar 1) (dCons (dC (.int 3)) dNil))) (dC (.int 0)))) (dFun (padF 2 [] (F_w_take c)) (dCons (dVar 1) (dCons (dBin gAdd (dVar 3) (dC (.int 1))) dNil))) (dBin gAdd (dBin gDiv (dVar 3) (dC (.int 2))) (dC (.int 1)))) dNil))) e m := rfl

noncomputable def C_law_2 (c : Cs) : DE := (dTup (dCons (dVar 6) (dCons (dFun gMin2 (dCons (dFun gInt (dCons (dVar 7) dNil)) (dCons (dFun gInt (dCons (dVar 3) dNil)) dNil))) dNil)))
theorem C_law_2_ap (c : Cs) (e : En) (m : Mu) : C_law_2 c e m = (dTup (dCons (dVar 6) (dCons (dFun gMin2 (dCons (dFun gInt (dCons (dVar 7) dNil)) (dCons (dFun gInt (dCons (dVar 3) dNil)) dNil))) dNil))) e m := rfl

noncomputable def C_law_3 (c : Cs) : DE := (dMake c.cArc (padF 3 [] (F_ArcD_initD c)) (dCons (dMake c.cRatio (padF 3 [] (F_RatioD_initD c)) (dCons (dVar 6) (dCons (dVar 3) dNil))) (dCons (dMake c.cRatio (padF 3 [] (F_RatioD_initD c)) (dCons (dVar 7) (dCons (dVar 3) dNil))) dNil)))
theorem C_law_3_ap (c : Cs) (e : En) (m : Mu) : C_law_3 c e m = (dMake c.cArc (padF 3 [] (F_ArcD_initD c)) (dCons (dMake c.cRatio (padF 3 [] (F_RatioD_initD c)) (dCons (dVar 6) (dCons (dVar 3) dNil))) (dCons (dMake c.cRatio (padF 3 [] (F_RatioD_initD c)) (dCons (dVar 7) (dCons (dVar 3) dNil))) dNil))) e m := rfl

noncomputable def C_law_4 (c : Cs) : DE := (dFun (padF 4 [] (F_w_is_in c)) (dCons (dVar 11) (dCons (dBin gMul (dC (.int 2)) (dVar 6)) (dCons (dBin gMul (dC (.int 2)) (dVar 7)) (dCons (dBin gMul (dC (.int 2)) (dVar 3)) dNil)))))
theorem C_law_4_ap (c : Cs) (e : En) (m : Mu) : C_law_4 c e m = (dFun (padF 4 [] (F_w_is_in c)) (dCons (dVar 11) (dCons (dBin gMul (dC (.int 2)) (dVar 6)) (dCons (dBin gMul (dC (.int 2)) (dVar 7)) (dCons (dBin gMul (dC (.int 2)) (dVar 3)) dNil))))) e m := rfl

noncomputable def C_law_5 (c : Cs) : DE := (dFun gAny (dCons (dComp (dItL (dVar 10)) (dTupG 2 (dGcons (dName 6) (dGcons (dName 7) dGnil))) dYes (C_law_4 c) [6, 7]) dNil))
theorem C_law_5_ap (c : Cs) (e : En) (m : Mu) : C_law_5 c e m = (dFun gAny (dCons (dComp (dItL (dVar 10)) (dTupG 2 (dGcons (dName 6) (dGcons (dName 7) dGnil))) dYes (C_law_4 c) [6, 7]) dNil)) e m := rfl

noncomputable def B_law_1 (c : Cs) : DS := (dIfS (dAndT (dTst (dBin gNe (dVar 10) (dLst dNil))) (dTst (dFun gAll (dCons (dComp (dItR1 (dCons (dBin gMul (dC (.int 2)) (dVar 3)) dNil)) (dName 11) dYes (C_law_5 c) [11]) dNil)))) (dDrop (dLm fAppend (dVar 9) (dCons (dFun gLen (dCons (dVar 10) dNil)) dNil))) dSkip)
theorem B_law_1_ap (c : Cs) (e : En) (m : Mu) : B_law_1 c e m = (dIfS (dAndT (dTst (dBin gNe (dVar 10) (dLst dNil))) (dTst (dFun gAll (dCons (dComp (dItR1 (dCons (dBin gMul (dC (.int 2)) (dVar 3)) dNil)) (dName 11) dYes (C_law_5 c) [11]) dNil)))) (dDrop (dLm fAppend (dVar 9) (dCons (dFun gLen (dCons (dVar 10) dNil)) dNil))) dSkip) e m := rfl

noncomputable def B_law_2 (c : Cs) : DS := (dSeq (dSet 3 (dBin gAdd (dC (.int 2)) (dFun (padF 2 [] (F_w_take c)) (dCons (dVar 1) (dCons (dC (.int 9)) dNil))))) (dSeq (dSet 4 (dComp (dItR1 (dCons (dFun (padF 2 [] (F_w_take c)) (dCons (dVar 1) (dCons (dC (.int 8)) dNil))) dNil)) (dName 5) dYes (C_law_1 c) [5])) (dSeq (dSet 4 (dComp (dItL (dVar 4)) (dTupG 2 (dGcons (dName 6) (dGcons (dName 7) dGnil))) dYes (C_law_2 c) [6, 7])) (dSeq (dSet 8 (dComp (dItL (dVar 4)) (dTupG 2 (dGcons (dName 6) (dGcons (dName 7) dGnil))) dYes (C_law_3 c) [6, 7])) (dSeq (dSet 9 (dLoc dNil)) (dSeq (dFor (dItL (dFun (padF 1 [] (F_w_choices c)) (dCons (dVar 4) dNil))) (dName 10) (B_law_1 c)) (dSeq (dSet 12 (dIf (dTst (dBin gNe (dVar 9) (dLst dNil))) (dFun gMinL (dCons (dCompS fF (dVar 9) (dName 13) dYes (dFun gInt (dCons (dVar 13) dNil)) [13]) dNil)) (dC .non))) (dSeq (dSet 14 (dFun gList (dCons (dVar 8) dNil))) (dSeq (dIfS (dNotT (dTst (dFun (padF 2 [] (F_w_like c 8)) (dCons (dLst (dCons (dFun (padF 1 [] (F_fewest_cover c)) (dCons (dVar 8) dNil)) (dCons (dFunK (GK_fewest_cover_0_arcs c) 0 1 dNil (dCons (dFun gTuple (dCons (dVar 8) dNil)) dNil)) (dCons (dFun (padF 1 [] (F_fewest_cover c)) (dCons (dBin gCat (dVar 8) (dVar 8)) dNil)) dNil)))) (dCons (dLst (dCons (dVar 12) (dCons (dVar 12) (dCons (dVar 12) dNil)))) dNil))))) (dRet (dC (.bl false))) dSkip) (dIfS (dOrT (dTst (dBin (gNeX [(c.kArc, (padF 2 [] (F_ArcD_eqD c)), [(.own c.cArc), (.prim "list")])] 5) (dVar 8) (dVar 14))) (dNotT (dTst (dFun (padF 2 [] (F_w_like c 8)) (dCons (dLst (dCons (dFun (padF 1 [] (F_fewest_cover c)) (dCons (dVar 8) dNil)) (dCons (dFun (padF 1 [] (F_fewest_cover c)) (dCons (dRev (dVar 8)) dNil)) dNil))) (dCons (dLst (dCons (dVar 12) (dCons (dVar 12) dNil))) dNil)))))) (dRet (dC (.bl false))) dSkip))))))))))
theorem B_law_2_ap (c : Cs) (e : En) (m : Mu) : B_law_2 c e m = (dSeq (dSet 3 (dBin gAdd (dC (.int 2)) (dFun (padF 2 [] (F_w_take c)) (dCons (dVar 1) (dCons (dC (.int 9)) dNil))))) (dSeq (dSet 4 (dComp (dItR1 (dCons (dFun (padF 2 [] (F_w_take c)) (dCons (dVar 1) (dCons (dC (.int 8)) dNil))) dNil)) (dName 5) dYes (C_law_1 c) [5])) (dSeq (dSet 4 (dComp (dItL (dVar 4)) (dTupG 2 (dGcons (dName 6) (dGcons (dName 7) dGnil))) dYes (C_law_2 c) [6, 7])) (dSeq (dSet 8 (dComp (dItL (dVar 4)) (dTupG 2 (dGcons (dName 6) (dGcons (dName 7) dGnil))) dYes (C_law_3 c) [6, 7])) (dSeq (dSet 9 (dLoc dNil)) (dSeq (dFor (dItL (dFun (padF 1 [] (F_w_choices c)) (dCons (dVar 4) dNil))) (dName 10) (B_law_1 c)) (dSeq (dSet 12 (dIf (dTst (dBin gNe (dVar 9) (dLst dNil))) (dFun gMinL (dCons (dCompS fF (dVar 9) (dName 13) dYes (dFun gInt (dCons (dVar 13) dNil)) [13]) dNil)) (dC .non))) (dSeq (dSet 14 (dFun gList (dCons (dVar 8) dNil))) (dSeq (dIfS (dNotT (dTst (dFun (padF 2 [] (F_w_like c 8)) (dCons (dLst (dCons (dFun (padF 1 [] (F_fewest_cover c)) (dCons (dVar 8) dNil)) (dCons (dFunK (GK_fewest_cover_0_arcs c) 0 1 dNil (dCons (dFun gTuple (dCons (dVar 8) dNil)) dNil)) (dCons (dFun (padF 1 [] (F_fewest_cover c)) (dCons (dBin gCat (dVar 8) (dVar 8)) dNil)) dNil)))) (dCons (dLst (dCons (dVar 12) (dCons (dVar 12) (dCons (dVar 12) dNil)))) dNil))))) (dRet (dC (.bl false))) dSkip) (dIfS (dOrT (dTst (dBin (gNeX [(c.kArc, (padF 2 [] (F_ArcD_eqD c)), [(.own c.cArc), (.prim "list")])] 5) (dVar 8) (dVar 14))) (dNotT (dTst (dFun (padF 2 [] (F_w_like c 8)) (dCons (dLst (dCons (dFun (padF 1 [] (F_fewest_cover c)) (dCons (dVar 8) dNil)) (dCons (dFun (padF 1 [] (F_fewest_cover c)) (dCons (dRev (dVar 8)) dNil)) dNil))) (dCons (dLst (dCons (dVar 12) (dCons (dVar 12) dNil))) dNil)))))) (dRet (dC (.bl false))) dSkip)))))))))) e m := rfl

/-- law (0 _law_script, 1 _law_bag, 2 _law_turn, 3 _law_parts, 4 _law_spec, 5 _law_k, 6 _law_start, 7 _law_width, 8 _law_some, 9 _law_sizes, 10 _law_row, 11 _law_spot, 12 _law_due, 13 _law_size, 14 _law_kept) -/
noncomputable def F_law (c : Cs) : DFn := dFn 15 (dSeq (dSet 1 (dFun (padF 1 [] (F_w_begin c)) (dCons (dVar 0) dNil))) (dSeq (dFor (dItR1 (dCons (dC (.int 4)) dNil)) (dName 2) (B_law_2 c)) (dRet (dBin gIsN (dFun (padF 1 [] (F_fewest_cover c)) (dCons (dLst dNil) dNil)) (dC .non)))))

end W

set_option maxHeartbeats 0
namespace W
open PySem PySem.Spec L2 DL

theorem sc_w_begin : FnScope ["_law_script"] ["_law_script"] (defScope s_w_begin) := ⟨rfl, rfl, rfl, by decide +kernel, rfl, by decide +kernel, by decide +kernel⟩

theorem sc_w_take : FnScope ["_law_bag", "_law_many", "_law_cell", "_law_digit", "_law_old"] ["_law_bag", "_law_many"] (defScope s_w_take) := ⟨rfl, rfl, rfl, by decide +kernel, rfl, by decide +kernel, by decide +kernel⟩

theorem sc_is_ratio : FnScope ["value"] ["value"] (defScope s_is_ratio) := ⟨rfl, rfl, rfl, by decide +kernel, rfl, by decide +kernel, by decide +kernel⟩

theorem sc_is_whole : FnScope ["value"] ["value"] (defScope s_is_whole) := ⟨rfl, rfl, rfl, by decide +kernel, rfl, by decide +kernel, by decide +kernel⟩

theorem sc_common_divisor : FnScope ["one", "other"] ["one", "other"] (defScope s_common_divisor) := ⟨rfl, rfl, rfl, by decide +kernel, rfl, by decide +kernel, by decide +kernel⟩

theorem sc_RatioD_initD : FnScope ["self", "top", "bottom", "divisor"] ["self", "top", "bottom"] (defScope s_RatioD_initD) := ⟨rfl, rfl, rfl, by decide +kernel, rfl, by decide +kernel, by decide +kernel⟩

theorem sc_Ratio_bottom : FnScope ["self"] ["self"] (defScope s_Ratio_bottom) := ⟨rfl, rfl, rfl, by decide +kernel, rfl, by decide +kernel, by decide +kernel⟩

theorem sc_Ratio_top : FnScope ["self"] ["self"] (defScope s_Ratio_top) := ⟨rfl, rfl, rfl, by decide +kernel, rfl, by decide +kernel, by decide +kernel⟩

theorem sc_Ratio_is_below : FnScope ["self", "other"] ["self", "other"] (defScope s_Ratio_is_below) := ⟨rfl, rfl, rfl, by decide +kernel, rfl, by decide +kernel, by decide +kernel⟩

theorem sc_is_between : FnScope ["value", "low", "high"] ["value", "low", "high"] (defScope s_is_between) := ⟨rfl, rfl, rfl, by decide +kernel, rfl, by decide +kernel, by decide +kernel⟩

theorem sc_Ratio_moment : FnScope ["self"] ["self"] (defScope s_Ratio_moment) := ⟨rfl, rfl, rfl, by decide +kernel, rfl, by decide +kernel, by decide +kernel⟩

theorem sc_ArcD_initD : FnScope ["self", "start", "width"] ["self", "start", "width"] (defScope s_ArcD_initD) := ⟨rfl, rfl, rfl, by decide +kernel, rfl, by decide +kernel, by decide +kernel⟩

theorem sc_w_choices : FnScope ["_law_some", "_law_found", "_law_item", "_law_row"] ["_law_some"] (defScope s_w_choices) := ⟨rfl, rfl, rfl, by decide +kernel, rfl, by decide +kernel, by decide +kernel⟩

theorem sc_w_is_in : FnScope ["_law_spot", "_law_start", "_law_width", "_law_whole"] ["_law_spot", "_law_start", "_law_width", "_law_whole"] (defScope s_w_is_in) := ⟨rfl, rfl, rfl, by decide +kernel, rfl, by decide +kernel, by decide +kernel⟩

theorem sc_Arc_width : FnScope ["self"] ["self"] (defScope s_Arc_width) := ⟨rfl, rfl, rfl, by decide +kernel, rfl, by decide +kernel, by decide +kernel⟩

theorem sc_Arc_start : FnScope ["self"] ["self"] (defScope s_Arc_start) := ⟨rfl, rfl, rfl, by decide +kernel, rfl, by decide +kernel, by decide +kernel⟩

theorem sc_RatioD_addD : FnScope ["self", "other"] ["self", "other"] (defScope s_RatioD_addD) := ⟨rfl, rfl, rfl, by decide +kernel, rfl, by decide +kernel, by decide +kernel⟩

theorem sc_RatioD_subD : FnScope ["self", "other"] ["self", "other"] (defScope s_RatioD_subD) := ⟨rfl, rfl, rfl, by decide +kernel, rfl, by decide +kernel, by decide +kernel⟩

theorem sc_Arc_offset : FnScope ["self", "moment"] ["self", "moment"] (defScope s_Arc_offset) := ⟨rfl, rfl, rfl, by decide +kernel, rfl, by decide +kernel, by decide +kernel⟩

theorem sc_RatioD_boolD : FnScope ["self"] ["self"] (defScope s_RatioD_boolD) := ⟨rfl, rfl, rfl, by decide +kernel, rfl, by decide +kernel, by decide +kernel⟩

theorem sc_cover_from : FnScope ["arcs", "first", "covered", "many", "spot", "best", "arc", "more"] ["arcs", "first"] (defScope s_cover_from) := ⟨rfl, rfl, rfl, by decide +kernel, rfl, by decide +kernel, by decide +kernel⟩

theorem sc_fewest_cover : FnScope ["arcs", "found", "arc", "many"] ["arcs"] (defScope s_fewest_cover) := ⟨rfl, rfl, rfl, by decide +kernel, rfl, by decide +kernel, by decide +kernel⟩

theorem sc_w_like : FnScope ["_law_found", "_law_due", "_law_one", "_law_two"] ["_law_found", "_law_due"] (defScope s_w_like) := ⟨rfl, rfl, rfl, by decide +kernel, rfl, by decide +kernel, by decide +kernel⟩

theorem sc_RatioD_eqD : FnScope ["self", "other"] ["self", "other"] (defScope s_RatioD_eqD) := ⟨rfl, rfl, rfl, by decide +kernel, rfl, by decide +kernel, by decide +kernel⟩

theorem sc_ArcD_eqD : FnScope ["self", "other"] ["self", "other"] (defScope s_ArcD_eqD) := ⟨rfl, rfl, rfl, by decide +kernel, rfl, by decide +kernel, by decide +kernel⟩

theorem sc_law : FnScope ["_law_script", "_law_bag", "_law_turn", "_law_parts", "_law_spec", "_law_k", "_law_start", "_law_width", "_law_some", "_law_sizes", "_law_row", "_law_spot", "_law_due", "_law_size", "_law_kept"] ["_law_script"] (defScope s_law) := ⟨rfl, rfl, rfl, by decide +kernel, rfl, by decide +kernel, by decide +kernel⟩

/-- what the top has written -/
structure Txt (K : PySem.W.Frag) (mg : Str → Option Value) (c : Cs) : Prop where
  fn_w_begin : ∃ (f : Addr) (fd : FuncData), mg "_law_begin" = some (.ref f) ∧ FunD K "_law_begin" "_law_begin" (defArgs s_w_begin) (defBody s_w_begin) (defScope s_w_begin) [] [] f fd
  fn_w_take : ∃ (f : Addr) (fd : FuncData), mg "_law_take" = some (.ref f) ∧ FunD K "_law_take" "_law_take" (defArgs s_w_take) (defBody s_w_take) (defScope s_w_take) [] [] f fd
  fn_is_ratio : ∃ (f : Addr) (fd : FuncData), mg "is_ratio" = some (.ref f) ∧ FunD K "is_ratio" "is_ratio" (defArgs s_is_ratio) (defBody s_is_ratio) (defScope s_is_ratio) [] [] f fd
  fn_is_whole : ∃ (f : Addr) (fd : FuncData), mg "is_whole" = some (.ref f) ∧ FunD K "is_whole" "is_whole" (defArgs s_is_whole) (defBody s_is_whole) (defScope s_is_whole) [] [] f fd
  fn_common_divisor : ∃ (f : Addr) (fd : FuncData), mg "common_divisor" = some (.ref f) ∧ FunD K "common_divisor" "common_divisor" (defArgs s_common_divisor) (defBody s_common_divisor) (defScope s_common_divisor) [] [] f fd
  me_RatioD_initD : ∃ (f : Addr) (fd : FuncData), PySem.W.findIn K (.ref c.cRatio) "__init__" = some (some (.ref f)) ∧ PySem.W.isFn K (.ref f) = true ∧ FunD K "__init__" "Ratio.__init__" (defArgs s_RatioD_initD) (defBody s_RatioD_initD) (defScope s_RatioD_initD) [.int 1] [] f fd
  pr_Ratio_bottom : ∃ (pp g : Addr) (fd : FuncData), PropOf K c.cRatio "bottom" pp g ∧ FunD K "bottom" "Ratio.bottom" (defArgs s_Ratio_bottom) (defBody s_Ratio_bottom) (defScope s_Ratio_bottom) [] [] g fd
  pr_Ratio_top : ∃ (pp g : Addr) (fd : FuncData), PropOf K c.cRatio "top" pp g ∧ FunD K "top" "Ratio.top" (defArgs s_Ratio_top) (defBody s_Ratio_top) (defScope s_Ratio_top) [] [] g fd
  me_Ratio_is_below : ∃ (f : Addr) (fd : FuncData), PySem.W.findIn K (.ref c.cRatio) "is_below" = some (some (.ref f)) ∧ PySem.W.isFn K (.ref f) = true ∧ FunD K "is_below" "Ratio.is_below" (defArgs s_Ratio_is_below) (defBody s_Ratio_is_below) (defScope s_Ratio_is_below) [] [] f fd
  fn_is_between : ∃ (f : Addr) (fd : FuncData), mg "is_between" = some (.ref f) ∧ FunD K "is_between" "is_between" (defArgs s_is_between) (defBody s_is_between) (defScope s_is_between) [] [] f fd
  me_Ratio_moment : ∃ (f : Addr) (fd : FuncData), PySem.W.findIn K (.ref c.cRatio) "moment" = some (some (.ref f)) ∧ PySem.W.isFn K (.ref f) = true ∧ FunD K "moment" "Ratio.moment" (defArgs s_Ratio_moment) (defBody s_Ratio_moment) (defScope s_Ratio_moment) [] [] f fd
  me_ArcD_initD : ∃ (f : Addr) (fd : FuncData), PySem.W.findIn K (.ref c.cArc) "__init__" = some (some (.ref f)) ∧ PySem.W.isFn K (.ref f) = true ∧ FunD K "__init__" "Arc.__init__" (defArgs s_ArcD_initD) (defBody s_ArcD_initD) (defScope s_ArcD_initD) [] [] f fd
  fn_w_choices : ∃ (f : Addr) (fd : FuncData), mg "_law_choices" = some (.ref f) ∧ FunD K "_law_choices" "_law_choices" (defArgs s_w_choices) (defBody s_w_choices) (defScope s_w_choices) [] [] f fd
  fn_w_is_in : ∃ (f : Addr) (fd : FuncData), mg "_law_is_in" = some (.ref f) ∧ FunD K "_law_is_in" "_law_is_in" (defArgs s_w_is_in) (defBody s_w_is_in) (defScope s_w_is_in) [] [] f fd
  pr_Arc_width : ∃ (pp g : Addr) (fd : FuncData), PropOf K c.cArc "width" pp g ∧ FunD K "width" "Arc.width" (defArgs s_Arc_width) (defBody s_Arc_width) (defScope s_Arc_width) [] [] g fd
  pr_Arc_start : ∃ (pp g : Addr) (fd : FuncData), PropOf K c.cArc "start" pp g ∧ FunD K "start" "Arc.start" (defArgs s_Arc_start) (defBody s_Arc_start) (defScope s_Arc_start) [] [] g fd
  me_RatioD_addD : ∃ (f : Addr) (fd : FuncData), PySem.W.findIn K (.ref c.cRatio) "__add__" = some (some (.ref f)) ∧ PySem.W.isFn K (.ref f) = true ∧ FunD K "__add__" "Ratio.__add__" (defArgs s_RatioD_addD) (defBody s_RatioD_addD) (defScope s_RatioD_addD) [] [] f fd
  me_RatioD_subD : ∃ (f : Addr) (fd : FuncData), PySem.W.findIn K (.ref c.cRatio) "__sub__" = some (some (.ref f)) ∧ PySem.W.isFn K (.ref f) = true ∧ FunD K "__sub__" "Ratio.__sub__" (defArgs s_RatioD_subD) (defBody s_RatioD_subD) (defScope s_RatioD_subD) [] [] f fd
  me_Arc_offset : ∃ (f : Addr) (fd : FuncData), PySem.W.findIn K (.ref c.cArc) "offset" = some (some (.ref f)) ∧ PySem.W.isFn K (.ref f) = true ∧ FunD K "offset" "Arc.offset" (defArgs s_Arc_offset) (defBody s_Arc_offset) (defScope s_Arc_offset) [] [] f fd
  me_RatioD_boolD : ∃ (f : Addr) (fd : FuncData), PySem.W.findIn K (.ref c.cRatio) "__bool__" = some (some (.ref f)) ∧ PySem.W.isFn K (.ref f) = true ∧ FunD K "__bool__" "Ratio.__bool__" (defArgs s_RatioD_boolD) (defBody s_RatioD_boolD) (defScope s_RatioD_boolD) [] [] f fd
  fn_cover_from : ∃ (f : Addr) (fd : FuncData), mg "cover_from" = some (.ref f) ∧ FunD K "cover_from" "cover_from" (defArgs s_cover_from) (defBody s_cover_from) (defScope s_cover_from) [] [] f fd
  fn_fewest_cover : ∃ (f : Addr) (fd : FuncData), mg "fewest_cover" = some (.ref f) ∧ FunD K "fewest_cover" "fewest_cover" (defArgs s_fewest_cover) (defBody s_fewest_cover) (defScope s_fewest_cover) [] [] f fd
  fn_w_like : ∃ (f : Addr) (fd : FuncData), mg "_law_like" = some (.ref f) ∧ FunD K "_law_like" "_law_like" (defArgs s_w_like) (defBody s_w_like) (defScope s_w_like) [] [] f fd
  me_RatioD_eqD : ∃ (f : Addr) (fd : FuncData), PySem.W.findIn K (.ref c.cRatio) "__eq__" = some (some (.ref f)) ∧ PySem.W.isFn K (.ref f) = true ∧ FunD K "__eq__" "Ratio.__eq__" (defArgs s_RatioD_eqD) (defBody s_RatioD_eqD) (defScope s_RatioD_eqD) [] [] f fd
  me_ArcD_eqD : ∃ (f : Addr) (fd : FuncData), PySem.W.findIn K (.ref c.cArc) "__eq__" = some (some (.ref f)) ∧ PySem.W.isFn K (.ref f) = true ∧ FunD K "__eq__" "Arc.__eq__" (defArgs s_ArcD_eqD) (defBody s_ArcD_eqD) (defScope s_ArcD_eqD) [] [] f fd
  fn_law : ∃ (f : Addr) (fd : FuncData), mg "law" = some (.ref f) ∧ FunD K "law" "law" (defArgs s_law) (defBody s_law) (defScope s_law) [] [] f fd
  b_abs : mg "abs" = none
  b_all : mg "all" = none
  b_any : mg "any" = none
  b_bool : mg "bool" = none
  b_int : mg "int" = none
  b_isinstance : mg "isinstance" = none
  b_len : mg "len" = none
  b_list : mg "list" = none
  b_min : mg "min" = none
  b_range : mg "range" = none
  b_str : mg "str" = none
  b_tuple : mg "tuple" = none
  b_zip : mg "zip" = none
  cl_Arc : Cls K c.cArc
  gc_Arc : mg "Arc" = some (.ref c.cArc)
  cl_Ratio : Cls K c.cRatio
  gc_Ratio : mg "Ratio" = some (.ref c.cRatio)
  mk_Arc : PySem.W.makesIn K c.cArc = true ∧ PySem.W.keepIn K (.ref c.cArc) = true
  mk_Ratio : PySem.W.makesIn K c.cRatio = true ∧ PySem.W.keepIn K (.ref c.cRatio) = true
  sf_Ratio : PySem.W.selfFirst K c.cRatio = true
  fl_Arc_own_start : FldOk K "own_start" c.kArc 0
  fl_Arc_own_width : FldOk K "own_width" c.kArc 1
  fl_Ratio_own_bottom : FldOk K "own_bottom" c.kRatio 1
  fl_Ratio_own_top : FldOk K "own_top" c.kRatio 0
  in_Arc : InsK K c.cArc
  in_Ratio : InsK K c.cRatio
  nf_Arc_ownccArc : PySem.W.notFirst K c.cArc (Tg.val (.own c.cArc)) = true
  nf_Arc_primlist : PySem.W.notFirst K c.cArc (Tg.val (.prim "list")) = true
  nf_Ratio_ownccRatio : PySem.W.notFirst K c.cRatio (Tg.val (.own c.cRatio)) = true
  ans_Arc__Arc : AnsOk K (ans_Arc__Arc c) [.ref c.cArc]
  ans_Ratio__Ratio : AnsOk K (ans_Ratio__Ratio c) [.ref c.cRatio]
  ans_bool : AnsOk K (ans_bool c) [.type "bool"]
  ans_int : AnsOk K (ans_int c) [.type "int"]
  ans_list : AnsOk K (ans_list c) [.type "list"]
  ans_list_tuple : AnsOk K (ans_list_tuple c) [.type "list", .type "tuple"]
  ans_str : AnsOk K (ans_str c) [.type "str"]
  ans_tuple : AnsOk K (ans_tuple c) [.type "tuple"]

section
variable {P : Program} {w : World} {K : PySem.W.Frag} {mg : Str → Option Value} {base : Heap} {c : Cs}

theorem ok_w_begin (T : Txt K mg c) {f : Addr} {fd : FuncData} (FD : FunD K "_law_begin" "_law_begin" (defArgs s_w_begin) (defBody s_w_begin) (defScope s_w_begin) [] [] f fd) : FnD P w K mg base 1 f fd ["_law_script"] (F_w_begin c) := fnD_of (N := ["_law_script"]) FD sc_w_begin (fun cdv A outer s H E hr => by
    refine pds_one ?_
    refine pds_ret ?_
    refine pd_loc ?_
    refine pda_c ?_ ?_
    refine pd_bt oc_list T.b_list (by decide +kernel) ?_
    refine pda_c ?_ pda_nil
    refine pd_sl ?_ pdo_none ?_
    exact (pd_var 0)
    exact (pdo_some pd_int)
    refine pda_int ?_
    refine pda_int ?_
    refine pda_c ?_ pda_nil
    refine pd_op od_add pd_int ?_
    refine pd_op od_mul pd_int ?_
    refine pd_bc oc_len T.b_len (by decide +kernel) ?_
    refine pda_c ?_ pda_nil
    refine pd_sl ?_ pdo_none ?_
    exact (pd_var 0)
    exact (pdo_some pd_int))

theorem ft_w_begin_1 (T : Txt K mg c) : FT P w K mg base 1 "_law_begin" (padF 1 [] (F_w_begin c)) := by
  obtain ⟨f, fd, hm, FD⟩ := T.fn_w_begin
  exact ⟨f, fd, _, _, _, hm, FD.kp, ok_w_begin T FD, (Bd.nil (FD.bindsN (fun _ _ _ _ _ _ us hl => match us, hl with | [_], _ => rfl))), rfl⟩

theorem ok_w_take (T : Txt K mg c) {f : Addr} {fd : FuncData} (FD : FunD K "_law_take" "_law_take" (defArgs s_w_take) (defBody s_w_take) (defScope s_w_take) [] [] f fd) : FnD P w K mg base 2 f fd ["_law_bag", "_law_many"] (F_w_take c) := fnD_of (N := ["_law_bag", "_law_many", "_law_cell", "_law_digit", "_law_old"]) FD sc_w_take (fun cdv A outer s H E hr => by
    refine pds_cons ?_ ?_
    refine pds_if ?_ ?_ pds_nil
    refine PDW.pt ?_
    refine pdw_and ?_ ?_
    refine pdt_cmp (od_eq hr.units) ?_ pd_int
    refine pd_ix ?_ pd_int
    exact (pd_var 0)
    refine pdw_and1 ?_
    refine pdt_cmp od_lt ?_ ?_
    refine pd_ix ?_ pd_int
    exact (pd_var 0)
    refine pd_bc oc_len T.b_len (by decide +kernel) ?_
    refine pda_c ?_ pda_nil
    refine pd_ix ?_ pd_int
    exact (pd_var 0)
    refine pds_cons ?_ ?_
    refine pds_set (i := 2) ?_ sc_w_take.nd
    refine pd_bc oc_abs T.b_abs (by decide +kernel) ?_
    refine pda_c ?_ pda_nil
    refine pd_ix ?_ ?_
    refine pd_ix ?_ pd_int
    exact (pd_var 0)
    refine pd_ix ?_ pd_int
    exact (pd_var 0)
    refine pds_cons ?_ ?_
    refine pds_putI ?_ ?_ pd_int
    refine pd_op od_add ?_ pd_int
    refine pd_ix ?_ pd_int
    exact (pd_var 0)
    exact (pd_var 0)
    refine pds_one ?_
    refine pds_if ?_ ?_ ?_
    refine pdt_cmp od_ge ?_ ?_
    exact (pd_var 2)
    exact (pd_op od_pow pd_int pd_int)
    refine pds_one ?_
    refine pds_putI ?_ ?_ pd_int
    exact (pd_var 2)
    exact (pd_var 0)
    refine pds_one ?_
    refine pds_putI ?_ ?_ pd_int
    refine pd_op od_mod ?_ pd_int
    refine pd_bt oc_int T.b_int (by decide +kernel) ?_
    refine pda_c ?_ pda_nil
    refine pd_op od_add ?_ ?_
    refine pd_op od_add ?_ ?_
    refine pd_op od_mul ?_ pd_int
    refine pd_ix ?_ pd_int
    exact (pd_var 0)
    refine pd_op od_mul ?_ pd_int
    refine pd_op od_mod ?_ pd_int
    refine pd_bt oc_int T.b_int (by decide +kernel) ?_
    refine pda_c ?_ pda_nil
    exact (pd_var 2)
    refine pd_ix ?_ pd_int
    exact (pd_var 0)
    exact (pd_var 0)
    refine pds_cons ?_ ?_
    refine pds_if ?_ ?_ pds_nil
    refine pdt_cmp od_gt ?_ pd_int
    refine pd_ix ?_ pd_int
    exact (pd_var 0)
    refine pds_cons ?_ ?_
    refine pds_set (i := 3) ?_ sc_w_take.nd
    refine pd_op od_mod ?_ ?_
    refine pd_bt oc_int T.b_int (by decide +kernel) ?_
    refine pda_c ?_ pda_nil
    refine pd_ix ?_ pd_int
    exact (pd_var 0)
    exact (pd_var 1)
    refine pds_cons ?_ ?_
    refine pds_putI ?_ ?_ pd_int
    refine pd_op od_div ?_ ?_
    refine pd_ix ?_ pd_int
    exact (pd_var 0)
    exact (pd_var 1)
    exact (pd_var 0)
    refine pds_one ?_
    refine pds_ret ?_
    exact (pd_var 3)
    refine pds_cons ?_ ?_
    refine pds_set (i := 4) ?_ sc_w_take.nd
    refine pd_ix ?_ pd_int
    exact (pd_var 0)
    refine pds_cons ?_ ?_
    refine pds_putI ?_ ?_ pd_int
    refine pd_op od_mod ?_ pd_int
    refine pd_bt oc_int T.b_int (by decide +kernel) ?_
    refine pda_c ?_ pda_nil
    refine pd_op od_add ?_ pd_int
    refine pd_op od_add ?_ ?_
    refine pd_op od_mul ?_ ?_
    exact (pd_var 4)
    exact (pd_var 4)
    refine pd_op od_mul ?_ pd_int
    exact (pd_var 4)
    exact (pd_var 0)
    refine pds_one ?_
    refine pds_ret ?_
    refine pd_op od_mod ?_ ?_
    refine pd_bt oc_int T.b_int (by decide +kernel) ?_
    refine pda_c ?_ pda_nil
    refine pd_op od_add ?_ ?_
    refine pd_op od_div ?_ pd_int
    refine pd_ix ?_ pd_int
    exact (pd_var 0)
    refine pd_op od_mul ?_ pd_int
    refine pd_op od_mod ?_ pd_int
    refine pd_bt oc_int T.b_int (by decide +kernel) ?_
    refine pda_c ?_ pda_nil
    refine pd_ix ?_ pd_int
    exact (pd_var 0)
    exact (pd_var 1))

theorem ft_w_take_2 (T : Txt K mg c) : FT P w K mg base 2 "_law_take" (padF 2 [] (F_w_take c)) := by
  obtain ⟨f, fd, hm, FD⟩ := T.fn_w_take
  exact ⟨f, fd, _, _, _, hm, FD.kp, ok_w_take T FD, (Bd.nil (FD.bindsN (fun _ _ _ _ _ _ us hl => match us, hl with | [_, _], _ => rfl))), rfl⟩

theorem ok_is_ratio (T : Txt K mg c) {f : Addr} {fd : FuncData} (FD : FunD K "is_ratio" "is_ratio" (defArgs s_is_ratio) (defBody s_is_ratio) (defScope s_is_ratio) [] [] f fd) : FnD P w K mg base 1 f fd ["value"] (F_is_ratio c) := fnD_of (N := ["value"]) FD sc_is_ratio (fun cdv A outer s H E hr => by
    refine pds_one ?_
    refine pds_ret ?_
    refine pd_isi ?_ (ClsV.own _) (pd_glob (RepA.val _) T.gc_Ratio rfl) T.ans_Ratio__Ratio T.b_isinstance
    exact (pd_var 0))

theorem ft_is_ratio_1 (T : Txt K mg c) : FT P w K mg base 1 "is_ratio" (padF 1 [] (F_is_ratio c)) := by
  obtain ⟨f, fd, hm, FD⟩ := T.fn_is_ratio
  exact ⟨f, fd, _, _, _, hm, FD.kp, ok_is_ratio T FD, (Bd.nil (FD.bindsN (fun _ _ _ _ _ _ us hl => match us, hl with | [_], _ => rfl))), rfl⟩

theorem ok_is_whole (T : Txt K mg c) {f : Addr} {fd : FuncData} (FD : FunD K "is_whole" "is_whole" (defArgs s_is_whole) (defBody s_is_whole) (defScope s_is_whole) [] [] f fd) : FnD P w K mg base 1 f fd ["value"] (F_is_whole c) := fnD_of (N := ["value"]) FD sc_is_whole (fun cdv A outer s H E hr => by
    refine pds_one ?_
    refine pds_ret ?_
    refine pd_and ?_ ?_
    refine pd_isi ?_ (ClsV.ty _) (pd_bltn (v := .ty "int") (u := .type "int") T.b_int (by decide +kernel) rfl) T.ans_int T.b_isinstance
    exact (pd_var 0)
    refine pd_one ?_
    refine pd_not ?_
    refine pd_isi ?_ (ClsV.ty _) (pd_bltn (v := .ty "bool") (u := .type "bool") T.b_bool (by decide +kernel) rfl) T.ans_bool T.b_isinstance
    exact (pd_var 0))

theorem ft_is_whole_1 (T : Txt K mg c) : FT P w K mg base 1 "is_whole" (padF 1 [] (F_is_whole c)) := by
  obtain ⟨f, fd, hm, FD⟩ := T.fn_is_whole
  exact ⟨f, fd, _, _, _, hm, FD.kp, ok_is_whole T FD, (Bd.nil (FD.bindsN (fun _ _ _ _ _ _ us hl => match us, hl with | [_], _ => rfl))), rfl⟩

theorem ok_common_divisor (T : Txt K mg c) {f : Addr} {fd : FuncData} (FD : FunD K "common_divisor" "common_divisor" (defArgs s_common_divisor) (defBody s_common_divisor) (defScope s_common_divisor) [] [] f fd) : FnD P w K mg base 2 f fd ["one", "other"] (F_common_divisor c) := fnD_of (N := ["one", "other"]) FD sc_common_divisor (fun cdv A outer s H E hr => by
    refine pds_cons ?_ ?_
    refine pds_while ?_ ?_ (passes_of rfl)
    refine pdt_cmp (od_ne hr.units) ?_ pd_int
    exact (pd_var 1)
    refine pds_one ?_
    refine pds_par (i := 0) (j := 1) ?_ (by rfl) sc_common_divisor.nd
    refine pda_c ?_ ?_
    exact (pd_var 1)
    refine pda_c ?_ pda_nil
    refine pd_op od_mod ?_ ?_
    exact (pd_var 0)
    exact (pd_var 1)
    refine pds_one ?_
    refine pds_ret ?_
    exact (pd_var 0))

theorem ft_common_divisor_2 (T : Txt K mg c) : FT P w K mg base 2 "common_divisor" (padF 2 [] (F_common_divisor c)) := by
  obtain ⟨f, fd, hm, FD⟩ := T.fn_common_divisor
  exact ⟨f, fd, _, _, _, hm, FD.kp, ok_common_divisor T FD, (Bd.nil (FD.bindsN (fun _ _ _ _ _ _ us hl => match us, hl with | [_, _], _ => rfl))), rfl⟩

theorem ok_RatioD_initD (T : Txt K mg c) {f : Addr} {fd : FuncData} (FD : FunD K "__init__" "Ratio.__init__" (defArgs s_RatioD_initD) (defBody s_RatioD_initD) (defScope s_RatioD_initD) [.int 1] [] f fd) : FnD P w K mg base 3 f fd ["self", "top", "bottom"] (F_RatioD_initD c) := fnD_of (N := ["self", "top", "bottom", "divisor"]) FD sc_RatioD_initD (fun cdv A outer s H E hr => by
    refine pds_cons ?_ ?_
    refine pds_if ?_ ?_ pds_nil
    refine PDW.pt ?_
    refine pdw_or ?_ ?_
    refine pdt_not ?_
    refine pdt_val ?_
    refine pd_fun (ft_is_whole_1 T) (hr.mono (by decide)) ?_
    refine pda_c ?_ pda_nil
    exact (pd_var 1)
    refine pdw_or ?_ ?_
    refine pdt_not ?_
    refine pdt_val ?_
    refine pd_fun (ft_is_whole_1 T) (hr.mono (by decide)) ?_
    refine pda_c ?_ pda_nil
    exact (pd_var 2)
    refine pdw_or1 ?_
    refine pdt_cmp (od_eq hr.units) ?_ pd_int
    exact (pd_var 2)
    exact (pds_one pds_stuck)
    refine pds_cons ?_ ?_
    refine pds_set (i := 3) ?_ sc_RatioD_initD.nd
    refine pd_fun (ft_common_divisor_2 T) (hr.mono (by decide)) ?_
    refine pda_c ?_ ?_
    refine pd_bc oc_abs T.b_abs (by decide +kernel) ?_
    refine pda_c ?_ pda_nil
    exact (pd_var 1)
    refine pda_c ?_ pda_nil
    refine pd_bc oc_abs T.b_abs (by decide +kernel) ?_
    refine pda_c ?_ pda_nil
    exact (pd_var 2)
    refine pds_cons ?_ ?_
    refine pds_set (i := 3) ?_ sc_RatioD_initD.nd
    refine pd_if ?_ ?_ ?_
    refine pdt_cmp od_lt ?_ pd_int
    exact (pd_var 2)
    refine pd_negI ?_
    exact (pd_var 3)
    exact (pd_var 3)
    refine pds_cons ?_ ?_
    refine pds_putF ?_ ?_ (by intro C hC; simp only [List.mem_cons, List.not_mem_nil, or_false] at hC; subst hC; exact ⟨T.cl_Ratio, T.fl_Ratio_own_top.no⟩)
    refine pd_op od_div ?_ ?_
    exact (pd_var 1)
    exact (pd_var 3)
    exact (pd_var 0)
    refine pds_one ?_
    refine pds_putF ?_ ?_ (by intro C hC; simp only [List.mem_cons, List.not_mem_nil, or_false] at hC; subst hC; exact ⟨T.cl_Ratio, T.fl_Ratio_own_bottom.no⟩)
    refine pd_op od_div ?_ ?_
    exact (pd_var 2)
    exact (pd_var 3)
    exact (pd_var 0))

theorem kt_Ratio_1 (T : Txt K mg c) : KT P w K mg base 3 "Ratio" c.cRatio (padF 3 [.int 1] (F_RatioD_initD c)) := by
  obtain ⟨f, fd, h0, hf, FD⟩ := T.me_RatioD_initD
  exact ⟨T.gc_Ratio, f, fd, _, _, _, ⟨T.mk_Ratio.1, h0, hf, T.mk_Ratio.2⟩, ok_RatioD_initD T FD, (bd_of (FD.binds1 2 0 (by simp) rfl (fun _ _ _ _ _ _ _ us its l1 l2 => match us, its, l1, l2 with | [_, _], [_], _, _ => ⟨_, rfl, rfl⟩)) (fun _ _ => .cons (.int _) .nil)), rfl⟩

theorem kt_Ratio_2 (T : Txt K mg c) : KT P w K mg base 3 "Ratio" c.cRatio (padF 3 [] (F_RatioD_initD c)) := by
  obtain ⟨f, fd, h0, hf, FD⟩ := T.me_RatioD_initD
  exact ⟨T.gc_Ratio, f, fd, _, _, _, ⟨T.mk_Ratio.1, h0, hf, T.mk_Ratio.2⟩, ok_RatioD_initD T FD, (bd_of (FD.binds1 3 1 (by simp) rfl (fun _ _ _ _ _ _ _ us its l1 l2 => match us, its, l1, l2 with | [_, _, _], [_], _, _ => ⟨_, rfl, rfl⟩)) (fun _ _ => .nil)), rfl⟩

theorem ok_Ratio_bottom (T : Txt K mg c) {f : Addr} {fd : FuncData} (FD : FunD K "bottom" "Ratio.bottom" (defArgs s_Ratio_bottom) (defBody s_Ratio_bottom) (defScope s_Ratio_bottom) [] [] f fd) : FnD P w K mg base 1 f fd ["self"] (F_Ratio_bottom c) := fnD_of (N := ["self"]) FD sc_Ratio_bottom (fun cdv A outer s H E hr => by
    refine pds_one ?_
    refine pds_ret ?_
    refine pd_fld ?_ (by intro r hr; simp only [List.mem_cons, List.not_mem_nil, or_false] at hr; subst hr; exact T.fl_Ratio_own_bottom)
    exact (pd_var 0))

theorem po_Ratio_Ratio_bottom (T : Txt K mg c) {k : Nat} (hk : 1 ≤ k) : PropOk P w K mg base k "bottom" c.kRatio (padF 1 [] (F_Ratio_bottom c)) := by
  obtain ⟨pp, g, fd, h0, FD⟩ := T.pr_Ratio_bottom
  exact ⟨T.cl_Ratio, pp, g, fd, _, _, h0, (ok_Ratio_bottom T FD).mono hk, (Bd.nil (FD.bindsN (fun _ _ _ _ _ _ us hl => match us, hl with | [_], _ => rfl))), rfl⟩

theorem ok_Ratio_top (T : Txt K mg c) {f : Addr} {fd : FuncData} (FD : FunD K "top" "Ratio.top" (defArgs s_Ratio_top) (defBody s_Ratio_top) (defScope s_Ratio_top) [] [] f fd) : FnD P w K mg base 1 f fd ["self"] (F_Ratio_top c) := fnD_of (N := ["self"]) FD sc_Ratio_top (fun cdv A outer s H E hr => by
    refine pds_one ?_
    refine pds_ret ?_
    refine pd_fld ?_ (by intro r hr; simp only [List.mem_cons, List.not_mem_nil, or_false] at hr; subst hr; exact T.fl_Ratio_own_top)
    exact (pd_var 0))

theorem po_Ratio_Ratio_top (T : Txt K mg c) {k : Nat} (hk : 1 ≤ k) : PropOk P w K mg base k "top" c.kRatio (padF 1 [] (F_Ratio_top c)) := by
  obtain ⟨pp, g, fd, h0, FD⟩ := T.pr_Ratio_top
  exact ⟨T.cl_Ratio, pp, g, fd, _, _, h0, (ok_Ratio_top T FD).mono hk, (Bd.nil (FD.bindsN (fun _ _ _ _ _ _ us hl => match us, hl with | [_], _ => rfl))), rfl⟩

theorem ok_Ratio_is_below (T : Txt K mg c) {f : Addr} {fd : FuncData} (FD : FunD K "is_below" "Ratio.is_below" (defArgs s_Ratio_is_below) (defBody s_Ratio_is_below) (defScope s_Ratio_is_below) [] [] f fd) : FnD P w K mg base 3 f fd ["self", "other"] (F_Ratio_is_below c) := fnD_of (N := ["self", "other"]) FD sc_Ratio_is_below (fun cdv A outer s H E hr => by
    refine pds_one ?_
    refine pds_ret ?_
    refine pd_cmp od_lt ?_ ?_
    refine pd_op od_mul ?_ ?_
    refine pd_fld ?_ (by intro r hr; simp only [List.mem_cons, List.not_mem_nil, or_false] at hr; subst hr; exact T.fl_Ratio_own_top)
    exact (pd_var 0)
    refine pd_prop (k := 1) ?_ (by intro r hr; simp only [List.mem_cons, List.not_mem_nil, or_false] at hr; subst hr; exact (po_Ratio_Ratio_bottom T (by decide))) (hr.mono (by decide))
    exact (pd_var 1)
    refine pd_op od_mul ?_ ?_
    refine pd_prop (k := 1) ?_ (by intro r hr; simp only [List.mem_cons, List.not_mem_nil, or_false] at hr; subst hr; exact (po_Ratio_Ratio_top T (by decide))) (hr.mono (by decide))
    exact (pd_var 1)
    refine pd_fld ?_ (by intro r hr; simp only [List.mem_cons, List.not_mem_nil, or_false] at hr; subst hr; exact T.fl_Ratio_own_bottom)
    exact (pd_var 0))

theorem mt_Ratio_Ratio_is_below_2 (T : Txt K mg c) : MT P w K mg base 3 "is_below" c.cRatio (padF 2 [] (F_Ratio_is_below c)) := by
  obtain ⟨f, fd, h0, hf, FD⟩ := T.me_Ratio_is_below
  exact ⟨f, fd, _, _, _, h0, hf, FD.kp, ok_Ratio_is_below T FD, (Bd.nil (FD.bindsN (fun _ _ _ _ _ _ us hl => match us, hl with | [_, _], _ => rfl))), rfl⟩

theorem mo_Ratio_Ratio_is_below_2 (T : Txt K mg c) {k : Nat} (hk : 3 ≤ k) : MethOk P w K mg base k "is_below" c.kRatio (padF 2 [] (F_Ratio_is_below c)) := ⟨T.cl_Ratio, (mt_Ratio_Ratio_is_below_2 T).mono hk, (show ("is_below" : Str) ∉ nsRatio from by decide +kernel)⟩

theorem ok_is_between (T : Txt K mg c) {f : Addr} {fd : FuncData} (FD : FunD K "is_between" "is_between" (defArgs s_is_between) (defBody s_is_between) (defScope s_is_between) [] [] f fd) : FnD P w K mg base 5 f fd ["value", "low", "high"] (F_is_between c) := fnD_of (N := ["value", "low", "high"]) FD sc_is_between (fun cdv A outer s H E hr => by
    refine pds_cons ?_ ?_
    refine pds_if ?_ ?_ pds_nil
    refine PDW.pt ?_
    refine pdw_or ?_ ?_
    refine pdt_not ?_
    refine pdt_val ?_
    refine pd_isi ?_ (ClsV.own _) (pd_glob (RepA.val _) T.gc_Ratio rfl) T.ans_Ratio__Ratio T.b_isinstance
    exact (pd_var 0)
    refine pdw_or1 ?_
    refine pdt_val ?_
    refine pd_meth (k := 3) ?_ (by intro r hr; simp only [List.mem_cons, List.not_mem_nil, or_false] at hr; subst hr; exact (mo_Ratio_Ratio_is_below_2 T (by decide))) (hr.mono (by decide)) ?_
    exact (pd_var 0)
    refine pda_c ?_ pda_nil
    refine pd_make (k := 3) (kt_Ratio_1 T) (hr.mono (by decide)) ?_
    refine pda_c ?_ pda_nil
    exact (pd_var 1)
    refine pds_one ?_
    exact (pds_ret pd_bl)
    refine pds_one ?_
    refine pds_ret ?_
    refine pd_or ?_ ?_
    refine pd_cmp od_isN ?_ pd_non
    exact (pd_var 2)
    refine pd_one ?_
    refine pd_not ?_
    refine pd_meth (k := 3) ?_ (by intro r hr; simp only [List.mem_cons, List.not_mem_nil, or_false] at hr; subst hr; exact (mo_Ratio_Ratio_is_below_2 T (by decide))) (hr.mono (by decide)) ?_
    refine pd_make (k := 3) (kt_Ratio_1 T) (hr.mono (by decide)) ?_
    refine pda_c ?_ pda_nil
    exact (pd_var 2)
    refine pda_c ?_ pda_nil
    exact (pd_var 0))

theorem ft_is_between_3 (T : Txt K mg c) : FT P w K mg base 5 "is_between" (padF 3 [] (F_is_between c)) := by
  obtain ⟨f, fd, hm, FD⟩ := T.fn_is_between
  exact ⟨f, fd, _, _, _, hm, FD.kp, ok_is_between T FD, (Bd.nil (FD.bindsN (fun _ _ _ _ _ _ us hl => match us, hl with | [_, _, _], _ => rfl))), rfl⟩

theorem ok_Ratio_moment (T : Txt K mg c) {f : Addr} {fd : FuncData} (FD : FunD K "moment" "Ratio.moment" (defArgs s_Ratio_moment) (defBody s_Ratio_moment) (defScope s_Ratio_moment) [] [] f fd) : FnD P w K mg base 5 f fd ["self"] (F_Ratio_moment c) := fnD_of (N := ["self"]) FD sc_Ratio_moment (fun cdv A outer s H E hr => by
    refine pds_one ?_
    refine pds_ret ?_
    refine pd_make (k := 3) (kt_Ratio_2 T) (hr.mono (by decide)) ?_
    refine pda_c ?_ ?_
    refine pd_op od_mod ?_ ?_
    refine pd_fld ?_ (by intro r hr; simp only [List.mem_cons, List.not_mem_nil, or_false] at hr; subst hr; exact T.fl_Ratio_own_top)
    exact (pd_var 0)
    refine pd_fld ?_ (by intro r hr; simp only [List.mem_cons, List.not_mem_nil, or_false] at hr; subst hr; exact T.fl_Ratio_own_bottom)
    exact (pd_var 0)
    refine pda_c ?_ pda_nil
    refine pd_fld ?_ (by intro r hr; simp only [List.mem_cons, List.not_mem_nil, or_false] at hr; subst hr; exact T.fl_Ratio_own_bottom)
    exact (pd_var 0))

theorem mt_Ratio_Ratio_moment_1 (T : Txt K mg c) : MT P w K mg base 5 "moment" c.cRatio (padF 1 [] (F_Ratio_moment c)) := by
  obtain ⟨f, fd, h0, hf, FD⟩ := T.me_Ratio_moment
  exact ⟨f, fd, _, _, _, h0, hf, FD.kp, ok_Ratio_moment T FD, (Bd.nil (FD.bindsN (fun _ _ _ _ _ _ us hl => match us, hl with | [_], _ => rfl))), rfl⟩

theorem mo_Ratio_Ratio_moment_1 (T : Txt K mg c) {k : Nat} (hk : 5 ≤ k) : MethOk P w K mg base k "moment" c.kRatio (padF 1 [] (F_Ratio_moment c)) := ⟨T.cl_Ratio, (mt_Ratio_Ratio_moment_1 T).mono hk, (show ("moment" : Str) ∉ nsRatio from by decide +kernel)⟩

theorem ok_ArcD_initD (T : Txt K mg c) {f : Addr} {fd : FuncData} (FD : FunD K "__init__" "Arc.__init__" (defArgs s_ArcD_initD) (defBody s_ArcD_initD) (defScope s_ArcD_initD) [] [] f fd) : FnD P w K mg base 6 f fd ["self", "start", "width"] (F_ArcD_initD c) := fnD_of (N := ["self", "start", "width"]) FD sc_ArcD_initD (fun cdv A outer s H E hr => by
    refine pds_cons ?_ ?_
    refine pds_if ?_ ?_ pds_nil
    refine PDW.pt ?_
    refine pdw_or ?_ ?_
    refine pdt_not ?_
    refine pdt_val ?_
    refine pd_fun (ft_is_ratio_1 T) (hr.mono (by decide)) ?_
    refine pda_c ?_ pda_nil
    exact (pd_var 1)
    refine pdw_or1 ?_
    refine pdt_not ?_
    refine pdt_val ?_
    refine pd_fun (ft_is_between_3 T) (hr.mono (by decide)) ?_
    refine pda_c ?_ ?_
    exact (pd_var 2)
    refine pda_int ?_
    exact (pda_int pda_nil)
    exact (pds_one pds_stuck)
    refine pds_cons ?_ ?_
    refine pds_putF ?_ ?_ (by intro C hC; simp only [List.mem_cons, List.not_mem_nil, or_false] at hC; subst hC; exact ⟨T.cl_Arc, T.fl_Arc_own_start.no⟩)
    refine pd_meth0 (k := 5) ?_ (by intro r hr; simp only [List.mem_cons, List.not_mem_nil, or_false] at hr; subst hr; exact (mo_Ratio_Ratio_moment_1 T (by decide))) (hr.mono (by decide))
    exact (pd_var 1)
    exact (pd_var 0)
    refine pds_one ?_
    refine pds_putF ?_ ?_ (by intro C hC; simp only [List.mem_cons, List.not_mem_nil, or_false] at hC; subst hC; exact ⟨T.cl_Arc, T.fl_Arc_own_width.no⟩)
    exact (pd_var 2)
    exact (pd_var 0))

theorem kt_Arc_2 (T : Txt K mg c) : KT P w K mg base 6 "Arc" c.cArc (padF 3 [] (F_ArcD_initD c)) := by
  obtain ⟨f, fd, h0, hf, FD⟩ := T.me_ArcD_initD
  exact ⟨T.gc_Arc, f, fd, _, _, _, ⟨T.mk_Arc.1, h0, hf, T.mk_Arc.2⟩, ok_ArcD_initD T FD, (Bd.nil (FD.bindsN (fun _ _ _ _ _ _ us hl => match us, hl with | [_, _, _], _ => rfl))), rfl⟩

theorem ok_w_choices (T : Txt K mg c) {f : Addr} {fd : FuncData} (FD : FunD K "_law_choices" "_law_choices" (defArgs s_w_choices) (defBody s_w_choices) (defScope s_w_choices) [] [] f fd) : FnD P w K mg base 1 f fd ["_law_some"] (F_w_choices c) := fnD_of (N := ["_law_some", "_law_found", "_law_item", "_law_row"]) FD sc_w_choices (fun cdv A outer s H E hr => by
    refine pds_cons ?_ ?_
    refine pds_set (i := 1) ?_ sc_w_choices.nd
    refine pd_lst ?_
    refine pda_c ?_ pda_nil
    exact (pd_lst pda_nil)
    refine pds_cons ?_ ?_
    refine pds_for ?_ (pdg_name 2 sc_w_choices.nd) ?_ (by rfl) (passes_of rfl)
    refine pdi_list ?_
    exact (pd_var 0)
    refine pds_one ?_
    refine pds_set (i := 1) ?_ sc_w_choices.nd
    refine pd_op od_cat ?_ ?_
    exact (pd_var 1)
    refine pd_lc ?_ sc_w_choices.nd (blkOk_by (own := [("_law_row", 3)]) (by rfl)) (fun _ _ _ _ _ => (pdg_name 3 sc_w_choices.nd)) ?_ ?_ (by rfl)
    refine pdi_list ?_
    exact (pd_var 1)
    intro _ _ _ _ _
    exact (pdts_nil)
    intro _ _ _ _ _
    refine pd_op od_cat ?_ ?_
    exact (pd_var 3)
    refine pd_lst ?_
    refine pda_c ?_ pda_nil
    exact (pd_var 2)
    refine pds_one ?_
    refine pds_ret ?_
    exact (pd_var 1))

theorem ft_w_choices_1 (T : Txt K mg c) : FT P w K mg base 1 "_law_choices" (padF 1 [] (F_w_choices c)) := by
  obtain ⟨f, fd, hm, FD⟩ := T.fn_w_choices
  exact ⟨f, fd, _, _, _, hm, FD.kp, ok_w_choices T FD, (Bd.nil (FD.bindsN (fun _ _ _ _ _ _ us hl => match us, hl with | [_], _ => rfl))), rfl⟩

theorem ok_w_is_in (T : Txt K mg c) {f : Addr} {fd : FuncData} (FD : FunD K "_law_is_in" "_law_is_in" (defArgs s_w_is_in) (defBody s_w_is_in) (defScope s_w_is_in) [] [] f fd) : FnD P w K mg base 1 f fd ["_law_spot", "_law_start", "_law_width", "_law_whole"] (F_w_is_in c) := fnD_of (N := ["_law_spot", "_law_start", "_law_width", "_law_whole"]) FD sc_w_is_in (fun cdv A outer s H E hr => by
    refine pds_one ?_
    refine pds_ret ?_
    refine pd_cmp od_le ?_ ?_
    refine pd_op od_mod ?_ ?_
    refine pd_bt oc_int T.b_int (by decide +kernel) ?_
    refine pda_c ?_ pda_nil
    refine pd_op od_sub ?_ ?_
    exact (pd_var 0)
    exact (pd_var 1)
    exact (pd_var 3)
    exact (pd_var 2))

theorem ft_w_is_in_4 (T : Txt K mg c) : FT P w K mg base 1 "_law_is_in" (padF 4 [] (F_w_is_in c)) := by
  obtain ⟨f, fd, hm, FD⟩ := T.fn_w_is_in
  exact ⟨f, fd, _, _, _, hm, FD.kp, ok_w_is_in T FD, (Bd.nil (FD.bindsN (fun _ _ _ _ _ _ us hl => match us, hl with | [_, _, _, _], _ => rfl))), rfl⟩

theorem ok_Arc_width (T : Txt K mg c) {f : Addr} {fd : FuncData} (FD : FunD K "width" "Arc.width" (defArgs s_Arc_width) (defBody s_Arc_width) (defScope s_Arc_width) [] [] f fd) : FnD P w K mg base 1 f fd ["self"] (F_Arc_width c) := fnD_of (N := ["self"]) FD sc_Arc_width (fun cdv A outer s H E hr => by
    refine pds_one ?_
    refine pds_ret ?_
    refine pd_fld ?_ (by intro r hr; simp only [List.mem_cons, List.not_mem_nil, or_false] at hr; subst hr; exact T.fl_Arc_own_width)
    exact (pd_var 0))

theorem po_Arc_Arc_width (T : Txt K mg c) {k : Nat} (hk : 1 ≤ k) : PropOk P w K mg base k "width" c.kArc (padF 1 [] (F_Arc_width c)) := by
  obtain ⟨pp, g, fd, h0, FD⟩ := T.pr_Arc_width
  exact ⟨T.cl_Arc, pp, g, fd, _, _, h0, (ok_Arc_width T FD).mono hk, (Bd.nil (FD.bindsN (fun _ _ _ _ _ _ us hl => match us, hl with | [_], _ => rfl))), rfl⟩

theorem ok_Arc_start (T : Txt K mg c) {f : Addr} {fd : FuncData} (FD : FunD K "start" "Arc.start" (defArgs s_Arc_start) (defBody s_Arc_start) (defScope s_Arc_start) [] [] f fd) : FnD P w K mg base 1 f fd ["self"] (F_Arc_start c) := fnD_of (N := ["self"]) FD sc_Arc_start (fun cdv A outer s H E hr => by
    refine pds_one ?_
    refine pds_ret ?_
    refine pd_fld ?_ (by intro r hr; simp only [List.mem_cons, List.not_mem_nil, or_false] at hr; subst hr; exact T.fl_Arc_own_start)
    exact (pd_var 0))

theorem po_Arc_Arc_start (T : Txt K mg c) {k : Nat} (hk : 1 ≤ k) : PropOk P w K mg base k "start" c.kArc (padF 1 [] (F_Arc_start c)) := by
  obtain ⟨pp, g, fd, h0, FD⟩ := T.pr_Arc_start
  exact ⟨T.cl_Arc, pp, g, fd, _, _, h0, (ok_Arc_start T FD).mono hk, (Bd.nil (FD.bindsN (fun _ _ _ _ _ _ us hl => match us, hl with | [_], _ => rfl))), rfl⟩

theorem ok_RatioD_addD (T : Txt K mg c) {f : Addr} {fd : FuncData} (FD : FunD K "__add__" "Ratio.__add__" (defArgs s_RatioD_addD) (defBody s_RatioD_addD) (defScope s_RatioD_addD) [] [] f fd) : FnD P w K mg base 5 f fd ["self", "other"] (F_RatioD_addD c) := fnD_of (N := ["self", "other"]) FD sc_RatioD_addD (fun cdv A outer s H E hr => by
    refine pds_one ?_
    refine pds_ret ?_
    refine pd_make (k := 3) (kt_Ratio_2 T) (hr.mono (by decide)) ?_
    refine pda_c ?_ ?_
    refine pd_op od_add ?_ ?_
    refine pd_op od_mul ?_ ?_
    refine pd_fld ?_ (by intro r hr; simp only [List.mem_cons, List.not_mem_nil, or_false] at hr; subst hr; exact T.fl_Ratio_own_top)
    exact (pd_var 0)
    refine pd_prop (k := 1) ?_ (by intro r hr; simp only [List.mem_cons, List.not_mem_nil, or_false] at hr; subst hr; exact (po_Ratio_Ratio_bottom T (by decide))) (hr.mono (by decide))
    exact (pd_var 1)
    refine pd_op od_mul ?_ ?_
    refine pd_prop (k := 1) ?_ (by intro r hr; simp only [List.mem_cons, List.not_mem_nil, or_false] at hr; subst hr; exact (po_Ratio_Ratio_top T (by decide))) (hr.mono (by decide))
    exact (pd_var 1)
    refine pd_fld ?_ (by intro r hr; simp only [List.mem_cons, List.not_mem_nil, or_false] at hr; subst hr; exact T.fl_Ratio_own_bottom)
    exact (pd_var 0)
    refine pda_c ?_ pda_nil
    refine pd_op od_mul ?_ ?_
    refine pd_fld ?_ (by intro r hr; simp only [List.mem_cons, List.not_mem_nil, or_false] at hr; subst hr; exact T.fl_Ratio_own_bottom)
    exact (pd_var 0)
    refine pd_prop (k := 1) ?_ (by intro r hr; simp only [List.mem_cons, List.not_mem_nil, or_false] at hr; subst hr; exact (po_Ratio_Ratio_bottom T (by decide))) (hr.mono (by decide))
    exact (pd_var 1))

theorem mt_Ratio_RatioD_addD_2 (T : Txt K mg c) : MT P w K mg base 5 "__add__" c.cRatio (padF 2 [] (F_RatioD_addD c)) := by
  obtain ⟨f, fd, h0, hf, FD⟩ := T.me_RatioD_addD
  exact ⟨f, fd, _, _, _, h0, hf, FD.kp, ok_RatioD_addD T FD, (Bd.nil (FD.bindsN (fun _ _ _ _ _ _ us hl => match us, hl with | [_, _], _ => rfl))), rfl⟩

theorem mo_Ratio_RatioD_addD_2 (T : Txt K mg c) {k : Nat} (hk : 5 ≤ k) : MethOk P w K mg base k "__add__" c.kRatio (padF 2 [] (F_RatioD_addD c)) := ⟨T.cl_Ratio, (mt_Ratio_RatioD_addD_2 T).mono hk, (show ("__add__" : Str) ∉ nsRatio from by decide +kernel)⟩

theorem ok_RatioD_subD (T : Txt K mg c) {f : Addr} {fd : FuncData} (FD : FunD K "__sub__" "Ratio.__sub__" (defArgs s_RatioD_subD) (defBody s_RatioD_subD) (defScope s_RatioD_subD) [] [] f fd) : FnD P w K mg base 5 f fd ["self", "other"] (F_RatioD_subD c) := fnD_of (N := ["self", "other"]) FD sc_RatioD_subD (fun cdv A outer s H E hr => by
    refine pds_one ?_
    refine pds_ret ?_
    refine pd_make (k := 3) (kt_Ratio_2 T) (hr.mono (by decide)) ?_
    refine pda_c ?_ ?_
    refine pd_op od_sub ?_ ?_
    refine pd_op od_mul ?_ ?_
    refine pd_fld ?_ (by intro r hr; simp only [List.mem_cons, List.not_mem_nil, or_false] at hr; subst hr; exact T.fl_Ratio_own_top)
    exact (pd_var 0)
    refine pd_prop (k := 1) ?_ (by intro r hr; simp only [List.mem_cons, List.not_mem_nil, or_false] at hr; subst hr; exact (po_Ratio_Ratio_bottom T (by decide))) (hr.mono (by decide))
    exact (pd_var 1)
    refine pd_op od_mul ?_ ?_
    refine pd_prop (k := 1) ?_ (by intro r hr; simp only [List.mem_cons, List.not_mem_nil, or_false] at hr; subst hr; exact (po_Ratio_Ratio_top T (by decide))) (hr.mono (by decide))
    exact (pd_var 1)
    refine pd_fld ?_ (by intro r hr; simp only [List.mem_cons, List.not_mem_nil, or_false] at hr; subst hr; exact T.fl_Ratio_own_bottom)
    exact (pd_var 0)
    refine pda_c ?_ pda_nil
    refine pd_op od_mul ?_ ?_
    refine pd_fld ?_ (by intro r hr; simp only [List.mem_cons, List.not_mem_nil, or_false] at hr; subst hr; exact T.fl_Ratio_own_bottom)
    exact (pd_var 0)
    refine pd_prop (k := 1) ?_ (by intro r hr; simp only [List.mem_cons, List.not_mem_nil, or_false] at hr; subst hr; exact (po_Ratio_Ratio_bottom T (by decide))) (hr.mono (by decide))
    exact (pd_var 1))

theorem mt_Ratio_RatioD_subD_2 (T : Txt K mg c) : MT P w K mg base 5 "__sub__" c.cRatio (padF 2 [] (F_RatioD_subD c)) := by
  obtain ⟨f, fd, h0, hf, FD⟩ := T.me_RatioD_subD
  exact ⟨f, fd, _, _, _, h0, hf, FD.kp, ok_RatioD_subD T FD, (Bd.nil (FD.bindsN (fun _ _ _ _ _ _ us hl => match us, hl with | [_, _], _ => rfl))), rfl⟩

theorem mo_Ratio_RatioD_subD_2 (T : Txt K mg c) {k : Nat} (hk : 5 ≤ k) : MethOk P w K mg base k "__sub__" c.kRatio (padF 2 [] (F_RatioD_subD c)) := ⟨T.cl_Ratio, (mt_Ratio_RatioD_subD_2 T).mono hk, (show ("__sub__" : Str) ∉ nsRatio from by decide +kernel)⟩

theorem ok_Arc_offset (T : Txt K mg c) {f : Addr} {fd : FuncData} (FD : FunD K "offset" "Arc.offset" (defArgs s_Arc_offset) (defBody s_Arc_offset) (defScope s_Arc_offset) [] [] f fd) : FnD P w K mg base 6 f fd ["self", "moment"] (F_Arc_offset c) := fnD_of (N := ["self", "moment"]) FD sc_Arc_offset (fun cdv A outer s H E hr => by
    refine pds_one ?_
    refine pds_ret ?_
    refine pd_meth0 (k := 5) ?_ (by intro r hr; simp only [List.mem_cons, List.not_mem_nil, or_false] at hr; subst hr; exact (mo_Ratio_Ratio_moment_1 T (by decide))) (hr.mono (by decide))
    refine pd_op (od_own (mt_Ratio_RatioD_subD_2 T) T.sf_Ratio (hr.mono (by decide))) ?_ ?_
    exact (pd_var 1)
    refine pd_fld ?_ (by intro r hr; simp only [List.mem_cons, List.not_mem_nil, or_false] at hr; subst hr; exact T.fl_Arc_own_start)
    exact (pd_var 0))

theorem mt_Arc_Arc_offset_2 (T : Txt K mg c) : MT P w K mg base 6 "offset" c.cArc (padF 2 [] (F_Arc_offset c)) := by
  obtain ⟨f, fd, h0, hf, FD⟩ := T.me_Arc_offset
  exact ⟨f, fd, _, _, _, h0, hf, FD.kp, ok_Arc_offset T FD, (Bd.nil (FD.bindsN (fun _ _ _ _ _ _ us hl => match us, hl with | [_, _], _ => rfl))), rfl⟩

theorem mo_Arc_Arc_offset_2 (T : Txt K mg c) {k : Nat} (hk : 6 ≤ k) : MethOk P w K mg base k "offset" c.kArc (padF 2 [] (F_Arc_offset c)) := ⟨T.cl_Arc, (mt_Arc_Arc_offset_2 T).mono hk, (show ("offset" : Str) ∉ nsArc from by decide +kernel)⟩

theorem ok_RatioD_boolD (T : Txt K mg c) {f : Addr} {fd : FuncData} (FD : FunD K "__bool__" "Ratio.__bool__" (defArgs s_RatioD_boolD) (defBody s_RatioD_boolD) (defScope s_RatioD_boolD) [] [] f fd) : FnD P w K mg base 1 f fd ["self"] (F_RatioD_boolD c) := fnD_of (N := ["self"]) FD sc_RatioD_boolD (fun cdv A outer s H E hr => by
    refine pds_one ?_
    refine pds_ret ?_
    refine pd_bt oc_bool T.b_bool (by decide +kernel) ?_
    refine pda_c ?_ pda_nil
    refine pd_fld ?_ (by intro r hr; simp only [List.mem_cons, List.not_mem_nil, or_false] at hr; subst hr; exact T.fl_Ratio_own_top)
    exact (pd_var 0))

theorem mt_Ratio_RatioD_boolD_1 (T : Txt K mg c) : MT P w K mg base 1 "__bool__" c.cRatio (padF 1 [] (F_RatioD_boolD c)) := by
  obtain ⟨f, fd, h0, hf, FD⟩ := T.me_RatioD_boolD
  exact ⟨f, fd, _, _, _, h0, hf, FD.kp, ok_RatioD_boolD T FD, (Bd.nil (FD.bindsN (fun _ _ _ _ _ _ us hl => match us, hl with | [_], _ => rfl))), rfl⟩

theorem mo_Ratio_RatioD_boolD_1 (T : Txt K mg c) {k : Nat} (hk : 1 ≤ k) : MethOk P w K mg base k "__bool__" c.kRatio (padF 1 [] (F_RatioD_boolD c)) := ⟨T.cl_Ratio, (mt_Ratio_RatioD_boolD_1 T).mono hk, (show ("__bool__" : Str) ∉ nsRatio from by decide +kernel)⟩

theorem ok_cover_from (T : Txt K mg c) {f : Addr} {fd : FuncData} (FD : FunD K "cover_from" "cover_from" (defArgs s_cover_from) (defBody s_cover_from) (defScope s_cover_from) [] [] f fd) : FnD P w K mg base 7 f fd ["arcs", "first"] (F_cover_from c) := fnD_of (N := ["arcs", "first", "covered", "many", "spot", "best", "arc", "more"]) FD sc_cover_from (fun cdv A outer s H E hr => by
    refine pds_cons ?_ ?_
    refine pds_set (i := 2) ?_ sc_cover_from.nd
    refine pd_prop (k := 1) ?_ (by intro r hr; simp only [List.mem_cons, List.not_mem_nil, or_false] at hr; subst hr; exact (po_Arc_Arc_width T (by decide))) (hr.mono (by decide))
    exact (pd_var 1)
    refine pds_cons ?_ ?_
    refine pds_for ?_ (pdg_name 3 sc_cover_from.nd) ?_ (by rfl) (passes_of rfl)
    refine pdi_range2 T.b_range ?_
    refine pda_int ?_
    refine pda_c ?_ pda_nil
    refine pd_op od_add ?_ pd_int
    refine pd_bc oc_len T.b_len (by decide +kernel) ?_
    refine pda_c ?_ pda_nil
    exact (pd_var 0)
    refine pds_cons ?_ ?_
    refine pds_if ?_ ?_ pds_nil
    refine pdt_not ?_
    refine pdt_val ?_
    refine pd_meth (k := 3) ?_ (by intro r hr; simp only [List.mem_cons, List.not_mem_nil, or_false] at hr; subst hr; exact (mo_Ratio_Ratio_is_below_2 T (by decide))) (hr.mono (by decide)) ?_
    exact (pd_var 2)
    refine pda_c ?_ pda_nil
    refine pd_make (k := 3) (kt_Ratio_1 T) (hr.mono (by decide)) ?_
    exact (pda_int pda_nil)
    refine pds_one ?_
    refine pds_ret ?_
    exact (pd_var 3)
    refine pds_cons ?_ ?_
    refine pds_par (i := 4) (j := 5) ?_ (by rfl) sc_cover_from.nd
    refine pda_c ?_ ?_
    refine pd_op (od_own (mt_Ratio_RatioD_addD_2 T) T.sf_Ratio (hr.mono (by decide))) ?_ ?_
    refine pd_prop (k := 1) ?_ (by intro r hr; simp only [List.mem_cons, List.not_mem_nil, or_false] at hr; subst hr; exact (po_Arc_Arc_start T (by decide))) (hr.mono (by decide))
    exact (pd_var 1)
    exact (pd_var 2)
    refine pda_c ?_ pda_nil
    refine pd_make (k := 3) (kt_Ratio_1 T) (hr.mono (by decide)) ?_
    exact (pda_int pda_nil)
    refine pds_cons ?_ ?_
    refine pds_for ?_ (pdg_name 6 sc_cover_from.nd) ?_ (by rfl) (passes_of rfl)
    refine pdi_orA ?_ ?_
    refine pdi_list ?_
    exact (pd_var 0)
    refine pdi_tup ?_
    exact (pd_var 0)
    refine pds_cons ?_ ?_
    refine pds_set (i := 7) ?_ sc_cover_from.nd
    refine pd_op (od_own (mt_Ratio_RatioD_subD_2 T) T.sf_Ratio (hr.mono (by decide))) ?_ ?_
    refine pd_prop (k := 1) ?_ (by intro r hr; simp only [List.mem_cons, List.not_mem_nil, or_false] at hr; subst hr; exact (po_Arc_Arc_width T (by decide))) (hr.mono (by decide))
    exact (pd_var 6)
    refine pd_meth (k := 6) ?_ (by intro r hr; simp only [List.mem_cons, List.not_mem_nil, or_false] at hr; subst hr; exact (mo_Arc_Arc_offset_2 T (by decide))) (hr.mono (by decide)) ?_
    exact (pd_var 6)
    refine pda_c ?_ pda_nil
    exact (pd_var 4)
    refine pds_one ?_
    refine pds_set (i := 5) ?_ sc_cover_from.nd
    refine pd_if ?_ ?_ ?_
    refine pdt_val ?_
    refine pd_meth (k := 3) ?_ (by intro r hr; simp only [List.mem_cons, List.not_mem_nil, or_false] at hr; subst hr; exact (mo_Ratio_Ratio_is_below_2 T (by decide))) (hr.mono (by decide)) ?_
    exact (pd_var 5)
    refine pda_c ?_ pda_nil
    exact (pd_var 7)
    exact (pd_var 7)
    exact (pd_var 5)
    refine pds_cons ?_ ?_
    refine pds_if ?_ ?_ pds_nil
    refine pdt_not ?_
    refine pdt_truthO (k := 1) ?_ (by intro r hr; simp only [List.mem_cons, List.not_mem_nil, or_false] at hr; subst hr; exact (((mt_Ratio_RatioD_boolD_1 T)).mono (by decide))) (hr.mono (by decide))
    exact (pd_var 5)
    refine pds_one ?_
    exact (pds_ret pd_non)
    refine pds_one ?_
    refine pds_set (i := 2) ?_ sc_cover_from.nd
    refine pd_op (od_own (mt_Ratio_RatioD_addD_2 T) T.sf_Ratio (hr.mono (by decide))) ?_ ?_
    exact (pd_var 2)
    exact (pd_var 5)
    refine pds_one ?_
    exact (pds_ret pd_non))

theorem ft_cover_from_2 (T : Txt K mg c) : FT P w K mg base 7 "cover_from" (padF 2 [] (F_cover_from c)) := by
  obtain ⟨f, fd, hm, FD⟩ := T.fn_cover_from
  exact ⟨f, fd, _, _, _, hm, FD.kp, ok_cover_from T FD, (Bd.nil (FD.bindsN (fun _ _ _ _ _ _ us hl => match us, hl with | [_, _], _ => rfl))), rfl⟩

theorem ok_fewest_cover (T : Txt K mg c) {f : Addr} {fd : FuncData} (FD : FunD K "fewest_cover" "fewest_cover" (defArgs s_fewest_cover) (defBody s_fewest_cover) (defScope s_fewest_cover) [] [] f fd) : FnD P w K mg base 8 f fd ["arcs"] (F_fewest_cover c) := fnD_of (N := ["arcs", "found", "arc", "many"]) FD sc_fewest_cover (fun cdv A outer s H E hr => by
    refine pds_cons ?_ ?_
    refine pds_setLc (i := 1) ?_ sc_fewest_cover.nd (blkOk_by (own := [("arc", 2)]) (by rfl)) (fun _ _ _ _ _ => (pdg_name 2 sc_fewest_cover.nd)) ?_ ?_ (by rfl) (sw_true rfl rfl rfl (by decide +kernel))
    refine pdi_orA ?_ ?_
    refine pdi_list ?_
    exact (pd_var 0)
    refine pdi_tup ?_
    exact (pd_var 0)
    intro _ _ _ _ _
    exact (pdts_nil)
    intro _ _ _ _ _
    refine pd_fun (ft_cover_from_2 T) (hr.mono (by decide)) ?_
    refine pda_c ?_ ?_
    exact (pd_var 0)
    refine pda_c ?_ pda_nil
    exact (pd_var 2)
    refine pds_one ?_
    refine pds_ret ?_
    refine pd_bck (ock_minDf (by rfl) hr.units) T.b_min (by decide +kernel) ?_ ?_
    refine pda_c ?_ pda_nil
    refine pd_lc ?_ sc_fewest_cover.nd (blkOk_by (own := [("many", 3)]) (by rfl)) (fun _ _ _ _ _ => (pdg_name 3 sc_fewest_cover.nd)) ?_ ?_ (by rfl)
    refine pdi_list ?_
    exact (pd_var 1)
    intro _ _ _ _ _
    refine pdts_one ?_
    refine pdt_cmp od_notN ?_ pd_non
    exact (pd_var 3)
    intro _ _ _ _ _
    refine pd_bt oc_int T.b_int (by decide +kernel) ?_
    refine pda_c ?_ pda_nil
    exact (pd_var 3)
    exact (pdk_cons pd_non pdk_nil))

theorem ft_fewest_cover_1 (T : Txt K mg c) : FT P w K mg base 8 "fewest_cover" (padF 1 [] (F_fewest_cover c)) := by
  obtain ⟨f, fd, hm, FD⟩ := T.fn_fewest_cover
  exact ⟨f, fd, _, _, _, hm, FD.kp, ok_fewest_cover T FD, (Bd.nil (FD.bindsN (fun _ _ _ _ _ _ us hl => match us, hl with | [_], _ => rfl))), rfl⟩

theorem ftk_fewest_cover_0_arcs (T : Txt K mg c) : FTK P w K mg base 8 "fewest_cover" 0 ["arcs"] (GK_fewest_cover_0_arcs c) := by
  obtain ⟨f, fd, hm, FD⟩ := T.fn_fewest_cover
  have hok := ok_fewest_cover (P := P) (w := w) (base := base) T FD
  have hkp := FD.kp
  obtain ⟨oc, od, dV, kV, doc, pm, an, cdv, ct, osl, rfl, lk, hcd, hD, hK⟩ := FD.ex
  obtain rfl := dfl_nil hD
  exact ⟨f, _, _, [0], [], _, hm, hkp, hok, ⟨[], [], .nil, fun _ _ => .nil, fun s us ws _ l1 l2 => match us, ws, l1, l2 with | [], [_], _, _ => ⟨.of_eq rfl, rfl⟩⟩, rfl⟩

theorem ft_w_like_2 (T : Txt K mg c) : ∀ n : Nat, FT P w K mg base (n + 2) "_law_like" (padF 2 [] (F_w_like c n))
  | 0 => by
    obtain ⟨f, fd, hm, FD⟩ := T.fn_w_like
    exact ⟨f, fd, ["_law_found", "_law_due"], [], F_w_like c 0, hm, FD.kp, FnOk.mono (fnD_none FD sc_w_like) (by omega), (Bd.nil (FD.bindsN (fun _ _ _ _ _ _ us hl => match us, hl with | [_, _], _ => rfl))), rfl⟩
  | n + 1 => by
    have ih := ft_w_like_2 T n
    obtain ⟨f, fd, hm, FD⟩ := T.fn_w_like
    exact ⟨f, fd, ["_law_found", "_law_due"], [], F_w_like c (n + 1), hm, FD.kp, fnD_of (k := n + 2) FD sc_w_like (fun cdv A outer s H E hr => by
      refine pds_cons ?_ ?_
      refine pds_if ?_ ?_ pds_nil
      refine PDW.pt ?_
      refine pdw_or ?_ ?_
      refine pdt_cmp od_isN ?_ pd_non
      exact (pd_var 1)
      refine pdw_or1 ?_
      refine pdt_cmp od_isN ?_ pd_non
      exact (pd_var 0)
      refine pds_one ?_
      refine pds_ret ?_
      refine pd_and ?_ ?_
      refine pd_cmp od_isN ?_ pd_non
      exact (pd_var 1)
      refine pd_one ?_
      refine pd_cmp od_isN ?_ pd_non
      exact (pd_var 0)
      refine pds_cons ?_ ?_
      refine pds_if ?_ ?_ pds_nil
      refine pdt_val ?_
      refine pd_isiT ?_ (.cons (ClsV.ty _) (.cons (ClsV.ty _) .nil)) (pda_c (pd_bltn (v := .ty "list") (u := .type "list") T.b_list (by decide +kernel) rfl) (pda_c (pd_bltn (v := .ty "tuple") (u := .type "tuple") T.b_tuple (by decide +kernel) rfl) pda_nil)) (by decide) T.ans_list_tuple T.b_isinstance
      exact (pd_var 1)
      refine pds_cons ?_ ?_
      refine pds_if ?_ ?_ pds_nil
      refine PDW.pt ?_
      refine pdw_or ?_ ?_
      refine pdt_cmp (od_ne hr.units) ?_ ?_
      refine pd_isi ?_ (ClsV.ty _) (pd_bltn (v := .ty "list") (u := .type "list") T.b_list (by decide +kernel) rfl) T.ans_list T.b_isinstance
      exact (pd_var 0)
      refine pd_isi ?_ (ClsV.ty _) (pd_bltn (v := .ty "list") (u := .type "list") T.b_list (by decide +kernel) rfl) T.ans_list T.b_isinstance
      exact (pd_var 1)
      refine pdw_or1 ?_
      refine pdt_cmp (od_ne hr.units) ?_ ?_
      refine pd_isi ?_ (ClsV.ty _) (pd_bltn (v := .ty "tuple") (u := .type "tuple") T.b_tuple (by decide +kernel) rfl) T.ans_tuple T.b_isinstance
      exact (pd_var 0)
      refine pd_isi ?_ (ClsV.ty _) (pd_bltn (v := .ty "tuple") (u := .type "tuple") T.b_tuple (by decide +kernel) rfl) T.ans_tuple T.b_isinstance
      exact (pd_var 1)
      refine pds_one ?_
      exact (pds_ret pd_bl)
      refine pds_one ?_
      refine pds_ret ?_
      refine pd_and ?_ ?_
      refine pd_cmp (od_eq hr.units) ?_ ?_
      refine pd_bc oc_len T.b_len (by decide +kernel) ?_
      refine pda_c ?_ pda_nil
      exact (pd_var 0)
      refine pd_bc oc_len T.b_len (by decide +kernel) ?_
      refine pda_c ?_ pda_nil
      exact (pd_var 1)
      refine pd_one ?_
      refine pd_bc (oc_all (by rfl)) T.b_all (by decide +kernel) ?_
      refine pda_c ?_ pda_nil
      refine pd_lc ?_ sc_w_like.nd (blkOk_by (own := [("_law_one", 2), ("_law_two", 3)]) (by rfl)) (fun _ _ _ _ _ => (pdg_tup (n := 2) (by rfl) (pdgs_cons (pdg_name 2 sc_w_like.nd) (pdgs_cons (pdg_name 3 sc_w_like.nd) pdgs_nil)))) ?_ ?_ (by rfl)
      refine pdi_zip T.b_zip ?_
      refine pda_c ?_ ?_
      exact (pd_var 0)
      refine pda_c ?_ pda_nil
      exact (pd_var 1)
      intro _ _ _ _ _
      exact (pdts_nil)
      intro _ _ _ _ _
      refine pd_fun (ih) (hr.mono (by omega)) ?_
      refine pda_c ?_ ?_
      exact (pd_var 2)
      refine pda_c ?_ pda_nil
      exact (pd_var 3)
      refine pds_cons ?_ ?_
      refine pds_if ?_ ?_ pds_nil
      refine PDW.pt ?_
      refine pdw_or ?_ ?_
      refine pdt_cmp (od_ne hr.units) ?_ ?_
      refine pd_isi ?_ (ClsV.ty _) (pd_bltn (v := .ty "bool") (u := .type "bool") T.b_bool (by decide +kernel) rfl) T.ans_bool T.b_isinstance
      exact (pd_var 0)
      refine pd_isi ?_ (ClsV.ty _) (pd_bltn (v := .ty "bool") (u := .type "bool") T.b_bool (by decide +kernel) rfl) T.ans_bool T.b_isinstance
      exact (pd_var 1)
      refine pdw_or1 ?_
      refine pdt_cmp (od_ne hr.units) ?_ ?_
      refine pd_isi ?_ (ClsV.ty _) (pd_bltn (v := .ty "int") (u := .type "int") T.b_int (by decide +kernel) rfl) T.ans_int T.b_isinstance
      exact (pd_var 0)
      refine pd_isi ?_ (ClsV.ty _) (pd_bltn (v := .ty "int") (u := .type "int") T.b_int (by decide +kernel) rfl) T.ans_int T.b_isinstance
      exact (pd_var 1)
      refine pds_one ?_
      exact (pds_ret pd_bl)
      refine pds_one ?_
      refine pds_ret ?_
      refine pd_and ?_ ?_
      refine pd_cmp (od_eq hr.units) ?_ ?_
      refine pd_isi ?_ (ClsV.ty _) (pd_bltn (v := .ty "str") (u := .type "str") T.b_str (by decide +kernel) rfl) T.ans_str T.b_isinstance
      exact (pd_var 0)
      refine pd_isi ?_ (ClsV.ty _) (pd_bltn (v := .ty "str") (u := .type "str") T.b_str (by decide +kernel) rfl) T.ans_str T.b_isinstance
      exact (pd_var 1)
      refine pd_one ?_
      refine pd_cmp (od_eq hr.units) ?_ ?_
      exact (pd_var 0)
      exact (pd_var 1)), (Bd.nil (FD.bindsN (fun _ _ _ _ _ _ us hl => match us, hl with | [_, _], _ => rfl))), rfl⟩

theorem ok_RatioD_eqD (T : Txt K mg c) {f : Addr} {fd : FuncData} (FD : FunD K "__eq__" "Ratio.__eq__" (defArgs s_RatioD_eqD) (defBody s_RatioD_eqD) (defScope s_RatioD_eqD) [] [] f fd) : FnD P w K mg base 3 f fd ["self", "other"] (F_RatioD_eqD c) := fnD_of (N := ["self", "other"]) FD sc_RatioD_eqD (fun cdv A outer s H E hr => by
    refine pds_one ?_
    refine pds_ret ?_
    refine pd_and ?_ ?_
    refine pd_isi ?_ (ClsV.own _) (pd_glob (RepA.val _) T.gc_Ratio rfl) T.ans_Ratio__Ratio T.b_isinstance
    exact (pd_var 1)
    refine pd_and ?_ ?_
    refine pd_cmp (od_eq hr.units) ?_ ?_
    refine pd_fld ?_ (by intro r hr; simp only [List.mem_cons, List.not_mem_nil, or_false] at hr; subst hr; exact T.fl_Ratio_own_top)
    exact (pd_var 0)
    refine pd_prop (k := 1) ?_ (by intro r hr; simp only [List.mem_cons, List.not_mem_nil, or_false] at hr; subst hr; exact (po_Ratio_Ratio_top T (by decide))) (hr.mono (by decide))
    exact (pd_var 1)
    refine pd_one ?_
    refine pd_cmp (od_eq hr.units) ?_ ?_
    refine pd_fld ?_ (by intro r hr; simp only [List.mem_cons, List.not_mem_nil, or_false] at hr; subst hr; exact T.fl_Ratio_own_bottom)
    exact (pd_var 0)
    refine pd_prop (k := 1) ?_ (by intro r hr; simp only [List.mem_cons, List.not_mem_nil, or_false] at hr; subst hr; exact (po_Ratio_Ratio_bottom T (by decide))) (hr.mono (by decide))
    exact (pd_var 1))

theorem mt_Ratio_RatioD_eqD_2 (T : Txt K mg c) : MT P w K mg base 3 "__eq__" c.cRatio (padF 2 [] (F_RatioD_eqD c)) := by
  obtain ⟨f, fd, h0, hf, FD⟩ := T.me_RatioD_eqD
  exact ⟨f, fd, _, _, _, h0, hf, FD.kp, ok_RatioD_eqD T FD, (Bd.nil (FD.bindsN (fun _ _ _ _ _ _ us hl => match us, hl with | [_, _], _ => rfl))), rfl⟩

theorem eqo_0 (T : Txt K mg c) {k : Nat} (hk : 3 ≤ k) : EqOk P w K mg base k (c.kRatio, padF 2 [] (F_RatioD_eqD c), [(.own c.cRatio)]) := ⟨(mt_Ratio_RatioD_eqD_2 T).mono hk, by
  intro t ht; simp only [List.mem_cons, List.not_mem_nil, or_false] at ht; subst ht; exact T.nf_Ratio_ownccRatio⟩

theorem mo_Ratio_RatioD_eqD_2 (T : Txt K mg c) {k : Nat} (hk : 3 ≤ k) : MethOk P w K mg base k "__eq__" c.kRatio (padF 2 [] (F_RatioD_eqD c)) := ⟨T.cl_Ratio, (mt_Ratio_RatioD_eqD_2 T).mono hk, (show ("__eq__" : Str) ∉ nsRatio from by decide +kernel)⟩

theorem ok_ArcD_eqD (T : Txt K mg c) {f : Addr} {fd : FuncData} (FD : FunD K "__eq__" "Arc.__eq__" (defArgs s_ArcD_eqD) (defBody s_ArcD_eqD) (defScope s_ArcD_eqD) [] [] f fd) : FnD P w K mg base 4 f fd ["self", "other"] (F_ArcD_eqD c) := fnD_of (N := ["self", "other"]) FD sc_ArcD_eqD (fun cdv A outer s H E hr => by
    refine pds_one ?_
    refine pds_ret ?_
    refine pd_and ?_ ?_
    refine pd_isi ?_ (ClsV.own _) (pd_glob (RepA.val _) T.gc_Arc rfl) T.ans_Arc__Arc T.b_isinstance
    exact (pd_var 1)
    refine pd_and ?_ ?_
    refine pd_cmp (od_ownEq (k := 3) (by intro r hr; simp only [List.mem_cons, List.not_mem_nil, or_false] at hr; subst hr; exact (eqo_0 T (by decide))) (hr.mono (by decide))) ?_ ?_
    refine pd_fld ?_ (by intro r hr; simp only [List.mem_cons, List.not_mem_nil, or_false] at hr; subst hr; exact T.fl_Arc_own_start)
    exact (pd_var 0)
    refine pd_prop (k := 1) ?_ (by intro r hr; simp only [List.mem_cons, List.not_mem_nil, or_false] at hr; subst hr; exact (po_Arc_Arc_start T (by decide))) (hr.mono (by decide))
    exact (pd_var 1)
    refine pd_one ?_
    refine pd_cmp (od_ownEq (k := 3) (by intro r hr; simp only [List.mem_cons, List.not_mem_nil, or_false] at hr; subst hr; exact (eqo_0 T (by decide))) (hr.mono (by decide))) ?_ ?_
    refine pd_fld ?_ (by intro r hr; simp only [List.mem_cons, List.not_mem_nil, or_false] at hr; subst hr; exact T.fl_Arc_own_width)
    exact (pd_var 0)
    refine pd_prop (k := 1) ?_ (by intro r hr; simp only [List.mem_cons, List.not_mem_nil, or_false] at hr; subst hr; exact (po_Arc_Arc_width T (by decide))) (hr.mono (by decide))
    exact (pd_var 1))

theorem mt_Arc_ArcD_eqD_2 (T : Txt K mg c) : MT P w K mg base 4 "__eq__" c.cArc (padF 2 [] (F_ArcD_eqD c)) := by
  obtain ⟨f, fd, h0, hf, FD⟩ := T.me_ArcD_eqD
  exact ⟨f, fd, _, _, _, h0, hf, FD.kp, ok_ArcD_eqD T FD, (Bd.nil (FD.bindsN (fun _ _ _ _ _ _ us hl => match us, hl with | [_, _], _ => rfl))), rfl⟩

theorem eqo_1 (T : Txt K mg c) {k : Nat} (hk : 4 ≤ k) : EqOk P w K mg base k (c.kArc, padF 2 [] (F_ArcD_eqD c), [(.own c.cArc), (.prim "list")]) := ⟨(mt_Arc_ArcD_eqD_2 T).mono hk, by
  intro t ht; simp only [List.mem_cons, List.not_mem_nil, or_false] at ht; rcases ht with rfl | rfl <;> first | exact T.nf_Arc_ownccArc | exact T.nf_Arc_primlist⟩

theorem mo_Arc_ArcD_eqD_2 (T : Txt K mg c) {k : Nat} (hk : 4 ≤ k) : MethOk P w K mg base k "__eq__" c.kArc (padF 2 [] (F_ArcD_eqD c)) := ⟨T.cl_Arc, (mt_Arc_ArcD_eqD_2 T).mono hk, (show ("__eq__" : Str) ∉ nsArc from by decide +kernel)⟩

theorem ok_law (T : Txt K mg c) {f : Addr} {fd : FuncData} (FD : FunD K "law" "law" (defArgs s_law) (defBody s_law) (defScope s_law) [] [] f fd) : FnD P w K mg base 11 f fd ["_law_script"] (F_law c) := fnD_of (N := ["_law_script", "_law_bag", "_law_turn", "_law_parts", "_law_spec", "_law_k", "_law_start", "_law_width", "_law_some", "_law_sizes", "_law_row", "_law_spot", "_law_due", "_law_size", "_law_kept"]) FD sc_law (fun cdv A outer s H E hr => by
    refine pds_cons ?_ ?_
    refine pds_set (i := 1) ?_ sc_law.nd
    refine pd_fun (ft_w_begin_1 T) (hr.mono (by decide)) ?_
    refine pda_c ?_ pda_nil
    exact (pd_var 0)
    refine pds_cons ?_ ?_
    refine pds_for ?_ (pdg_name 2 sc_law.nd) ?_ (by rfl) (passes_of rfl)
    refine pdi_range1 T.b_range ?_
    exact (pda_int pda_nil)
    refine pds_cons ?_ ?_
    refine pds_set (i := 3) ?_ sc_law.nd
    refine pd_op od_add pd_int ?_
    refine pd_fun (ft_w_take_2 T) (hr.mono (by decide)) ?_
    refine pda_c ?_ ?_
    exact (pd_var 1)
    exact (pda_int pda_nil)
    refine pds_cons ?_ ?_
    refine pds_setLc (i := 4) ?_ sc_law.nd (blkOk_by (own := [("_law_k", 5)]) (by rfl)) (fun _ _ _ _ _ => (pdg_name 5 sc_law.nd)) ?_ ?_ (by rfl) (sw_true rfl rfl rfl (by decide +kernel))
    refine pdi_range1 T.b_range ?_
    refine pda_c ?_ pda_nil
    refine pd_fun (ft_w_take_2 T) (hr.mono (by decide)) ?_
    refine pda_c ?_ ?_
    exact (pd_var 1)
    exact (pda_int pda_nil)
    intro _ _ _ _ _
    exact (pdts_nil)
    intro _ _ _ _ _
    refine pd_tup ?_
    refine pda_c ?_ ?_
    refine pd_fun (ft_w_take_2 T) (hr.mono (by decide)) ?_
    refine pda_c ?_ ?_
    exact (pd_var 1)
    refine pda_c ?_ pda_nil
    exact (pd_var 3)
    refine pda_c ?_ pda_nil
    refine pd_if ?_ ?_ ?_
    refine pdt_cmp od_gt ?_ pd_int
    refine pd_fun (ft_w_take_2 T) (hr.mono (by decide)) ?_
    refine pda_c ?_ ?_
    exact (pd_var 1)
    exact (pda_int pda_nil)
    refine pd_fun (ft_w_take_2 T) (hr.mono (by decide)) ?_
    refine pda_c ?_ ?_
    exact (pd_var 1)
    refine pda_c ?_ pda_nil
    refine pd_op od_add ?_ pd_int
    exact (pd_var 3)
    refine pd_op od_add ?_ pd_int
    refine pd_op od_div ?_ pd_int
    exact (pd_var 3)
    refine pds_cons ?_ ?_
    refine pds_setLc (i := 4) ?_ sc_law.nd (blkOk_by (own := [("_law_start", 6), ("_law_width", 7)]) (by rfl)) (fun _ _ _ _ _ => (pdg_tup (n := 2) (by rfl) (pdgs_cons (pdg_name 6 sc_law.nd) (pdgs_cons (pdg_name 7 sc_law.nd) pdgs_nil)))) ?_ ?_ (by rfl) (sw_true rfl rfl rfl (by decide +kernel))
    refine pdi_list ?_
    exact (pd_var 4)
    intro _ _ _ _ _
    exact (pdts_nil)
    intro _ _ _ _ _
    refine pd_tup ?_
    refine pda_c ?_ ?_
    exact (pd_var 6)
    refine pda_c ?_ pda_nil
    refine pd_bc (oc_min2 (by rfl)) T.b_min (by decide +kernel) ?_
    refine pda_c ?_ ?_
    refine pd_bt oc_int T.b_int (by decide +kernel) ?_
    refine pda_c ?_ pda_nil
    exact (pd_var 7)
    refine pda_c ?_ pda_nil
    refine pd_bt oc_int T.b_int (by decide +kernel) ?_
    refine pda_c ?_ pda_nil
    exact (pd_var 3)
    refine pds_cons ?_ ?_
    refine pds_setLc (i := 8) ?_ sc_law.nd (blkOk_by (own := [("_law_start", 6), ("_law_width", 7)]) (by rfl)) (fun _ _ _ _ _ => (pdg_tup (n := 2) (by rfl) (pdgs_cons (pdg_name 6 sc_law.nd) (pdgs_cons (pdg_name 7 sc_law.nd) pdgs_nil)))) ?_ ?_ (by rfl) (sw_true rfl rfl rfl (by decide +kernel))
    refine pdi_list ?_
    exact (pd_var 4)
    intro _ _ _ _ _
    exact (pdts_nil)
    intro _ _ _ _ _
    refine pd_make (k := 6) (kt_Arc_2 T) (hr.mono (by decide)) ?_
    refine pda_c ?_ ?_
    refine pd_make (k := 3) (kt_Ratio_2 T) (hr.mono (by decide)) ?_
    refine pda_c ?_ ?_
    exact (pd_var 6)
    refine pda_c ?_ pda_nil
    exact (pd_var 3)
    refine pda_c ?_ pda_nil
    refine pd_make (k := 3) (kt_Ratio_2 T) (hr.mono (by decide)) ?_
    refine pda_c ?_ ?_
    exact (pd_var 7)
    refine pda_c ?_ pda_nil
    exact (pd_var 3)
    refine pds_cons ?_ ?_
    refine pds_set (i := 9) ?_ sc_law.nd
    exact (pd_loc pda_nil)
    refine pds_cons ?_ ?_
    refine pds_for ?_ (pdg_name 10 sc_law.nd) ?_ (by rfl) (passes_of rfl)
    refine pdi_list ?_
    refine pd_fun (ft_w_choices_1 T) (hr.mono (by decide)) ?_
    refine pda_c ?_ pda_nil
    exact (pd_var 4)
    refine pds_one ?_
    refine pds_if ?_ ?_ pds_nil
    refine PDW.pt ?_
    refine pdw_and ?_ ?_
    refine pdt_cmp (od_ne hr.units) ?_ ?_
    exact (pd_var 10)
    exact (pd_lst pda_nil)
    refine pdw_and1 ?_
    refine pdt_val ?_
    refine pd_bc (oc_all (by rfl)) T.b_all (by decide +kernel) ?_
    refine pda_c ?_ pda_nil
    refine pd_lc ?_ sc_law.nd (blkOk_by (own := [("_law_spot", 11)]) (by rfl)) (fun _ _ _ _ _ => (pdg_name 11 sc_law.nd)) ?_ ?_ (by rfl)
    refine pdi_range1 T.b_range ?_
    refine pda_c ?_ pda_nil
    refine pd_op od_mul pd_int ?_
    exact (pd_var 3)
    intro _ _ _ _ _
    exact (pdts_nil)
    intro _ _ _ _ _
    refine pd_bc (oc_any (by rfl)) T.b_any (by decide +kernel) ?_
    refine pda_c ?_ pda_nil
    refine pd_lc ?_ sc_law.nd (blkOk_by (own := [("_law_start", 6), ("_law_width", 7)]) (by rfl)) (fun _ _ _ _ _ => (pdg_tup (n := 2) (by rfl) (pdgs_cons (pdg_name 6 sc_law.nd) (pdgs_cons (pdg_name 7 sc_law.nd) pdgs_nil)))) ?_ ?_ (by rfl)
    refine pdi_list ?_
    exact (pd_var 10)
    intro _ _ _ _ _
    exact (pdts_nil)
    intro _ _ _ _ _
    refine pd_fun (ft_w_is_in_4 T) (hr.mono (by decide)) ?_
    refine pda_c ?_ ?_
    exact (pd_var 11)
    refine pda_c ?_ ?_
    refine pd_op od_mul pd_int ?_
    exact (pd_var 6)
    refine pda_c ?_ ?_
    refine pd_op od_mul pd_int ?_
    exact (pd_var 7)
    refine pda_c ?_ pda_nil
    refine pd_op od_mul pd_int ?_
    exact (pd_var 3)
    refine pds_one ?_
    refine pds_expr ?_
    refine pd_append ?_ ?_
    exact (pd_var 9)
    refine pda_c ?_ pda_nil
    refine pd_bc oc_len T.b_len (by decide +kernel) ?_
    refine pda_c ?_ pda_nil
    exact (pd_var 10)
    refine pds_cons ?_ ?_
    refine pds_set (i := 12) ?_ sc_law.nd
    refine pd_if ?_ ?_ pd_non
    refine pdt_cmp (od_ne hr.units) ?_ ?_
    exact (pd_var 9)
    exact (pd_lst pda_nil)
    refine pd_bc (oc_minL (by rfl)) T.b_min (by decide +kernel) ?_
    refine pda_c ?_ pda_nil
    refine pd_lcS ?_ sc_law.nd (blkOk_by (own := [("_law_size", 13)]) (by rfl)) (fun _ _ _ _ _ => (pdg_name 13 sc_law.nd)) ?_ ?_ (fin_F _) (by rfl)
    exact (pd_var 9)
    intro _ _ _ _ _
    exact (pdts_nil)
    intro _ _ _ _ _
    refine pd_bt oc_int T.b_int (by decide +kernel) ?_
    refine pda_c ?_ pda_nil
    exact (pd_var 13)
    refine pds_cons ?_ ?_
    refine pds_set (i := 14) ?_ sc_law.nd
    refine pd_bt oc_list T.b_list (by decide +kernel) ?_
    refine pda_c ?_ pda_nil
    exact (pd_var 8)
    refine pds_cons ?_ ?_
    refine pds_if ?_ ?_ pds_nil
    refine pdt_not ?_
    refine pdt_val ?_
    refine pd_fun (ft_w_like_2 T 8) (hr.mono (by decide)) ?_
    refine pda_c ?_ ?_
    refine pd_lst ?_
    refine pda_c ?_ ?_
    refine pd_fun (ft_fewest_cover_1 T) (hr.mono (by decide)) ?_
    refine pda_c ?_ pda_nil
    exact (pd_var 8)
    refine pda_c ?_ ?_
    refine pd_funK0 (ks := ["arcs"]) (ftk_fewest_cover_0_arcs T) (hr.mono (by decide)) ?_
    refine pdk_cons ?_ pdk_nil
    refine pd_bt oc_tuple T.b_tuple (by decide +kernel) ?_
    refine pda_c ?_ pda_nil
    exact (pd_var 8)
    refine pda_c ?_ pda_nil
    refine pd_fun (ft_fewest_cover_1 T) (hr.mono (by decide)) ?_
    refine pda_c ?_ pda_nil
    refine pd_op od_cat ?_ ?_
    exact (pd_var 8)
    exact (pd_var 8)
    refine pda_c ?_ pda_nil
    refine pd_lst ?_
    refine pda_c ?_ ?_
    exact (pd_var 12)
    refine pda_c ?_ ?_
    exact (pd_var 12)
    refine pda_c ?_ pda_nil
    exact (pd_var 12)
    refine pds_one ?_
    exact (pds_ret pd_bl)
    refine pds_one ?_
    refine pds_if ?_ ?_ pds_nil
    refine PDW.pt ?_
    refine pdw_or ?_ ?_
    refine pdt_cmp (od_neX (k := 4) (by intro r hr; simp only [List.mem_cons, List.not_mem_nil, or_false] at hr; subst hr; exact (eqo_1 T (by decide))) 5 (hr.mono (by decide))) ?_ ?_
    exact (pd_var 8)
    exact (pd_var 14)
    refine pdw_or1 ?_
    refine pdt_not ?_
    refine pdt_val ?_
    refine pd_fun (ft_w_like_2 T 8) (hr.mono (by decide)) ?_
    refine pda_c ?_ ?_
    refine pd_lst ?_
    refine pda_c ?_ ?_
    refine pd_fun (ft_fewest_cover_1 T) (hr.mono (by decide)) ?_
    refine pda_c ?_ pda_nil
    exact (pd_var 8)
    refine pda_c ?_ pda_nil
    refine pd_fun (ft_fewest_cover_1 T) (hr.mono (by decide)) ?_
    refine pda_c ?_ pda_nil
    refine pd_rev ?_
    exact (pd_var 8)
    refine pda_c ?_ pda_nil
    refine pd_lst ?_
    refine pda_c ?_ ?_
    exact (pd_var 12)
    refine pda_c ?_ pda_nil
    exact (pd_var 12)
    refine pds_one ?_
    exact (pds_ret pd_bl)
    refine pds_one ?_
    refine pds_ret ?_
    refine pd_cmp od_isN ?_ pd_non
    refine pd_fun (ft_fewest_cover_1 T) (hr.mono (by decide)) ?_
    refine pda_c ?_ pda_nil
    exact (pd_lst pda_nil))

end
end W

set_option maxHeartbeats 1000000
namespace W
open PySem PySem.Spec L2 DL

@[simp] theorem orF_ap (f g : DFn) (ds : List D) (m : Mu) : orF f g ds m = match f ds m with
  | .stuck => g ds m
  | r => r := rfl
@[simp] theorem tru_bl (m : Mu) (b : Bool) : dTru m (.bl b) = some b := rfl
@[simp ↓] theorem dTrO_ap (rows : List (Kl × DFn)) (t : DE) (e : En) (m : Mu) : dTrO rows t e m = (t e m).bind fun d m => match dTru m d with
  | some b => .ok b m
  | none => match insOf m d with
    | some (C, ns, _) => match methAt rows C ns with
      | some G => (G [d] m).bind fun r m => match r with
        | .bl b => .ok b m
        | _ => .stuck
      | none => .stuck
    | none => .stuck := rfl
@[simp ↓] theorem dNotO_ap (rows : List (Kl × DFn)) (t : DE) (e : En) (m : Mu) : dNotO rows t e m = (dTrO rows t e m).bind fun b m => .ok (.bl !b) m := rfl
theorem log_lt {n k : Nat} (h : n < 2 ^ k) (hk : 0 < k) : n.log2 < k := by
  by_cases h0 : n = 0
  · subst h0; simpa using hk
  · exact (Nat.log2_lt h0).mpr h
theorem log_le {n : Nat} {k : Nat} (h : n ≤ 2 ^ k) : n.log2 ≤ k := by
  by_cases h0 : n = 0
  · subst h0; simp
  · have := (Nat.log2_lt h0 (k := k + 1)).mpr (by rw [Nat.pow_succ]; omega)
    omega
theorem mulOk_of {i j : Int} (h : i.natAbs.log2 + j.natAbs.log2 < 1000000) : mulOk i j = true := by
  unfold mulOk; simpa using h
theorem divOk_of {i j : Int} (h0 : j ≠ 0) (h : j.natAbs.log2 < 9000) : divOk i j = true := by
  unfold divOk; simp [h0, h]
theorem int_log {i : Int} {k : Nat} (h1 : -(2 ^ k : Nat) < i) (h2 : i < (2 ^ k : Nat)) (hk : 0 < k) : i.natAbs.log2 < k := log_lt (by omega) hk
theorem mulOk_lt {i j : Int} (h1 : -(2 ^ 100 : Nat) < i) (h2 : i < (2 ^ 100 : Nat)) (h3 : -(2 ^ 100 : Nat) < j) (h4 : j < (2 ^ 100 : Nat)) : mulOk i j = true :=
  mulOk_of (by have := int_log h1 h2 (by decide); have := int_log h3 h4 (by decide); omega)
/-! ### the bag -/
def bagO (cells : List Int) (i r x : Int) : Mo := .lst [.lst (cells.map .int), .int i, .int r, .int x]
structure BagO (o : Mo) : Prop where
  ex : ∃ (cells : List Int) (i r x : Int), o = bagO cells i r x ∧ 0 ≤ i ∧ 0 ≤ r ∧ 0 ≤ x ∧ x < 2 ^ 31
structure BagOk (m : Mu) : Prop where
  ex : ∃ o, m[0]? = some o ∧ BagO o
theorem belows_ints (n : Nat) : ∀ xs : List Int, belows n (xs.map .int) = true
  | [] => rfl
  | x :: xs => by simp [belows, below, belows_ints n xs]
theorem BagO.below {o : Mo} (h : BagO o) (n : Nat) : o.below n = true := by
  obtain ⟨cells, i, r, x, rfl, _⟩ := h.ex
  simp [bagO, Mo.below, belows, DL.below, belows_ints]
/-- the same but for the bag -/
structure Bgs (m m' : Mu) : Prop where
  ex : ∃ o, m' = m.set 0 o ∧ BagO o
theorem Bgs.len {m m' : Mu} (h : Bgs m m') : m'.length = m.length := by obtain ⟨o, rfl, _⟩ := h.ex; simp
theorem Bgs.trans {m m' m'' : Mu} (h : Bgs m m') (k : Bgs m' m'') : Bgs m m'' := by
  obtain ⟨o, rfl, _⟩ := h.ex
  obtain ⟨o', rfl, hb⟩ := k.ex
  exact ⟨o', by simp, hb⟩
theorem BagOk.set {m : Mu} (h : BagOk m) {o : Mo} (b : BagO o) : BagOk (m.set 0 o) := by
  obtain ⟨o', h1, _⟩ := h.ex
  refine ⟨o, ?_, b⟩
  cases m with
  | nil => simp at h1
  | cons a t => rfl
theorem Bgs.bag {m m' : Mu} (h : Bgs m m') (b : BagOk m) : BagOk m' := by
  obtain ⟨o, rfl, hb⟩ := h.ex
  exact b.set hb
theorem BagOk.rfl' {m : Mu} (b : BagOk m) : Bgs m m := by
  obtain ⟨o, h1, hb⟩ := b.ex
  refine ⟨o, ?_, hb⟩
  cases m with
  | nil => simp at h1
  | cons a t => simp at h1; subst h1; rfl
theorem Bgs.cl {m m' : Mu} (h : Bgs m m') (k : Cl m) : Cl m' := by
  obtain ⟨o, rfl, hb⟩ := h.ex
  intro q hq
  rw [List.length_set]
  rcases List.mem_or_eq_of_mem_set hq with z | z
  · exact k q z
  · subst z; exact hb.below _
theorem Bgs.get {m m' : Mu} (h : Bgs m m') (k : Nat) : m'[k + 1]? = m[k + 1]? := by
  obtain ⟨o, rfl, _⟩ := h.ex
  simp
theorem bagO_mk {cells : List Int} {i r x : Int} (h1 : 0 ≤ i) (h2 : 0 ≤ r) (h3 : 0 ≤ x) (h4 : x < 2 ^ 31) : BagO (bagO cells i r x) := ⟨cells, i, r, x, rfl, h1, h2, h3, h4⟩
theorem mod_b {a n : Int} (h : 0 < n) : 0 ≤ a % n ∧ a % n < n := ⟨Int.emod_nonneg _ (by omega), Int.emod_lt_of_pos _ h⟩
theorem mulOk_m {a n k : Int} (h : 0 < n) (h2 : n < 2 ^ 100) (h3 : 0 ≤ k) (h4 : k < 2 ^ 100) : mulOk (a % n) k = true := by
  have := mod_b (a := a) h
  exact mulOk_lt (by omega) (by omega) (by omega) (by omega)
theorem fdiv_nn {a n : Int} (h : 0 ≤ a) (hn : 0 < n) : 0 ≤ a.fdiv n := by
  rw [Int.fdiv_eq_ediv_of_nonneg _ (by omega)]
  exact Int.ediv_nonneg h (by omega)
theorem take_ex (c : Cs) {m : Mu} (hb : BagOk m) {n : Int} (hn : 0 < n) (hl : n < 2 ^ 200) :
    ∃ v o, F_w_take c [.loc 0, .int n] m = .ok (.int v) (m.set 0 o) ∧ 0 ≤ v ∧ v < n ∧ BagO o := by
  obtain ⟨o, h1, hb⟩ := hb.ex
  obtain ⟨cells, i, r, x, rfl, hi, hr, hx, hx2⟩ := hb.ex
  cases m with
  | nil => simp at h1
  | cons a t =>
  simp at h1
  subst h1
  have hd : ∀ r, divOk r n = true := fun r => divOk_of (by omega) (by have := int_log (i := n) (k := 200) (by omega) (by omega) (by decide); omega)
  have hd53 : ∀ r, divOk r 53 = true := fun r => divOk_of (by omega) (by decide)
  have hm7 : ∀ z : Int, mulOk (z % 7907) 179 = true := fun z => mulOk_m (by omega) (by omega) (by omega) (by omega)
  have hm1 : ∀ x : Int, 0 ≤ x → x < 2 ^ 31 → mulOk x 36919 = true := fun x h h2 => mulOk_lt (by omega) (by omega) (by omega) (by omega)
  have hm2 : ∀ x : Int, 0 ≤ x → x < 2 ^ 31 → mulOk x x = true := fun x h h2 => mulOk_lt (by omega) (by omega) (by omega) (by omega)
  have hm3 : ∀ x : Int, 0 ≤ x → x < 2 ^ 31 → mulOk x 29423 = true := fun x h h2 => mulOk_lt (by omega) (by omega) (by omega) (by omega)
  have hm4 : ∀ z : Int, mulOk (z % 2147483563) 7919 = true := fun z => mulOk_m (by omega) (by omega) (by omega) (by omega)
  have m7 : ∀ z : Int, 0 ≤ z % 2147483647 ∧ z % 2147483647 < 2 ^ 31 := fun z => by have := mod_b (a := z) (n := 2147483647) (by decide); omega
  have m8 : ∀ z : Int, 0 ≤ z % 2147483629 ∧ z % 2147483629 < 2 ^ 31 := fun z => by have := mod_b (a := z) (n := 2147483629) (by decide); omega
  have mn : ∀ z : Int, 0 ≤ z % n ∧ z % n < n := fun z => mod_b hn
  by_cases hc : r = 0 ∧ i < cells.length
  · obtain ⟨rfl, hi2⟩ := hc
    obtain ⟨j, rfl⟩ := Int.eq_ofNat_of_zero_le hi
    have hj : j < cells.length := by omega
    generalize hw : (if cells[j] < 0 then -cells[j] else cells[j]) = w
    have hw0 : 0 ≤ w := by subst hw; split <;> omega
    by_cases h18 : 1000000000000000000 ≤ w
    · have hp : 0 < w := by omega
      refine ⟨w % n, bagO cells (↑j + 1) (w.fdiv n) x, ?_, (mn w).1, (mn w).2, bagO_mk (by omega) (fdiv_nn hw0 hn) hx hx2⟩
      simp [F_w_take, env0, bagO, hj, hw, h18, hp, hd, hn]
    · generalize hR : F_w_take c _ _ = R
      simp [F_w_take, env0, bagO, hj, hw, h18, hm1 x hx hx2, hm4, hm2 _ (m8 _).1 (m8 _).2, hm3 _ (m8 _).1 (m8 _).2, hd53, hm7, hn] at hR
      subst hR
      exact ⟨_, bagO cells (↑j + 1) 0 _, rfl, (mn _).1, (mn _).2, bagO_mk (by omega) (by omega) (m7 _).1 (m7 _).2⟩
  · by_cases hr0 : 0 < r
    · refine ⟨r % n, bagO cells i (r.fdiv n) x, ?_, (mn _).1, (mn _).2, bagO_mk hi (fdiv_nn hr hn) hx hx2⟩
      have : ¬ r = 0 := by omega
      simp [F_w_take, env0, bagO, hr0, hd, hn, this]
    · have : r = 0 := by omega
      subst this
      have hi2 : ¬ i < cells.length := fun h => hc ⟨rfl, h⟩
      generalize hR : F_w_take c _ _ = R
      simp [F_w_take, env0, bagO, hi2, hm2 x hx hx2, hm3 x hx hx2, hd53, hm7, hn] at hR
      subst hR
      exact ⟨_, bagO cells i 0 _, rfl, (mn _).1, (mn _).2, bagO_mk hi (by omega) (m7 _).1 (m7 _).2⟩
theorem take_ok (c : Cs) {m : Mu} (hb : BagOk m) {n : Int} (hn : 0 < n) (hl : n < 2 ^ 200) :
    ∃ v m', F_w_take c [.loc 0, .int n] m = .ok (.int v) m' ∧ 0 ≤ v ∧ v < n ∧ Bgs m m' := by
  obtain ⟨v, o, h1, h2, h3, h4⟩ := take_ex c hb hn hl
  exact ⟨v, _, h1, h2, h3, ⟨o, rfl, h4⟩⟩
theorem gcd_step (a b : Nat) : Nat.gcd b (a % b) = Nat.gcd a b := by rw [Nat.gcd_comm b, ← Nat.gcd_rec, Nat.gcd_comm]
theorem common_while (c : Cs) (m : Mu) : ∀ (k a b : Nat), b < k → whileF (T_common_divisor_1 c) (B_common_divisor_1 c) k [some (.int a), some (.int b)] m = .nx [some (.int (Nat.gcd a b)), some (.int 0)] m
  | 0, a, b, h => by omega
  | k + 1, a, b, h => by
    unfold whileF
    by_cases hb : b = 0
    · subst hb; simp [T_common_divisor_1_ap]
    · have hb' : 0 < b := by omega
      have hm := Nat.mod_lt a hb'
      have ih := common_while c m k b (a % b) (by omega)
      rw [Int.natCast_emod, gcd_step] at ih
      simp [T_common_divisor_1_ap, B_common_divisor_1_ap, hb', ih, hb]
theorem common_ok (c : Cs) (a b : Int) (ha : 0 ≤ a) (hb : 0 ≤ b) (m : Mu) : F_common_divisor c [.int a, .int b] m = .ok (.int (Int.gcd a b)) m := by
  obtain ⟨j, rfl⟩ := Int.eq_ofNat_of_zero_le ha
  obtain ⟨k, rfl⟩ := Int.eq_ofNat_of_zero_le hb
  have h := dWhile_eq (common_while c m (k + 1) j k (by omega)) (by simp)
  simp [F_common_divisor, env0, h, Int.gcd]
/-- a fraction's own form -/
def fr (q : Rat) : D := .tup [.int q.num, .int q.den]
theorem abs_gcd (a b : Int) : Int.gcd (if a < 0 then -a else a) (if b < 0 then -b else b) = Int.gcd a b := by
  unfold Int.gcd
  congr 1 <;> split <;> omega
theorem abs_nn (a : Int) : 0 ≤ (if a < 0 then -a else a) := by split <;> omega
/-- the divisor with the lower part's sign -/
def sg (a b : Int) : Int := if 0 < b then (Int.gcd a b : Int) else -(Int.gcd a b : Int)
theorem sg_ne (a : Int) {b : Int} (hb : b ≠ 0) : sg a b ≠ 0 := by
  unfold sg
  have : Int.gcd a b ≠ 0 := by rw [Ne, Int.gcd_eq_zero_iff]; omega
  split <;> omega
theorem sg_num (a : Int) {b : Int} (hb : b ≠ 0) : a.fdiv (sg a b) = (Rat.divInt a b).num := by
  rw [Rat.num_divInt, Int.gcd_comm b a]
  unfold sg
  have hg : (Int.gcd a b : Int) ∣ a := Int.gcd_dvd_left ..
  obtain ⟨k, hk⟩ := hg
  have h0 : (Int.gcd a b : Int) ≠ 0 := by have : Int.gcd a b ≠ 0 := by rw [Ne, Int.gcd_eq_zero_iff]; omega
                                          omega
  generalize (Int.gcd a b : Int) = g at *
  subst hk
  by_cases h : 0 < b
  · rw [if_pos h, Int.sign_eq_one_of_pos h, Int.one_mul, Int.mul_fdiv_cancel_left _ h0, Int.mul_ediv_cancel_left _ h0]
  · rw [if_neg h, Int.sign_eq_neg_one_of_neg (by omega), Int.neg_one_mul, ← Int.mul_neg, Int.mul_ediv_cancel_left _ h0, ← Int.neg_mul_neg, Int.mul_fdiv_cancel_left _ (by omega)]
theorem sg_den (a : Int) {b : Int} (hb : b ≠ 0) : b.fdiv (sg a b) = (Rat.divInt a b).den := by
  rw [Rat.den_divInt, if_neg hb, Int.gcd_comm b a]
  unfold sg
  have hg : (Int.gcd a b : Int) ∣ b := Int.gcd_dvd_right ..
  have h0 : Int.gcd a b ≠ 0 := by rw [Ne, Int.gcd_eq_zero_iff]; omega
  generalize Int.gcd a b = g at *
  have h0' : (g : Int) ≠ 0 := by omega
  obtain ⟨k, hk⟩ := hg
  subst hk
  have e : ((g : Int) * k).natAbs = g * k.natAbs := by rw [Int.natAbs_mul]; simp
  rw [e, Nat.mul_div_cancel_left _ (by omega)]
  by_cases h : 0 < (g : Int) * k
  · rw [if_pos h, Int.mul_fdiv_cancel_left _ h0']
    have : 0 < k := Int.pos_of_mul_pos_right h (by omega)
    omega
  · rw [if_neg h, ← Int.neg_mul_neg, Int.mul_fdiv_cancel_left _ (by omega)]
    have : ¬ 0 < k := fun z => h (Int.mul_pos (by omega) z)
    omega
theorem gcd_log (a : Int) {b : Int} (hb : b ≠ 0) : (Int.gcd a b).log2 ≤ b.natAbs.log2 := by
  have h : Int.gcd a b ≤ b.natAbs := Nat.le_of_dvd (by omega) (Int.gcd_dvd_natAbs_right a b)
  have h0 : Int.gcd a b ≠ 0 := by rw [Ne, Int.gcd_eq_zero_iff]; omega
  exact (Nat.le_log2 (by omega)).mpr (Nat.le_trans (Nat.log2_self_le h0) h)
theorem sg_log (a : Int) {b : Int} (hb : b ≠ 0) : (sg a b).natAbs.log2 ≤ b.natAbs.log2 := by
  have := gcd_log a hb
  unfold sg; split <;> simpa using this
@[simp ↓] theorem dMake_ap (C : Addr) (G : DFn) (t : DA) (e : En) (m : Mu) : dMake C G t e m = match t e m with
  | .stuck => .stuck
  | .ok ds m1 => mkObj C m1 (G (.loc m1.length :: ds) (m1 ++ [.ins C []]))
  | .exc C fs m1 => .exc C fs m1 := by
  unfold dMake
  cases t e m <;> rfl
@[simp] theorem set_last {α : Type} (m : List α) (x y : α) : (m ++ [x]).set m.length y = m ++ [y] := by
  rw [List.set_append_right _ _ (Nat.le_refl _), Nat.sub_self]; rfl
@[simp] theorem get_last {α : Type} (m : List α) (x : α) : (m ++ [x])[m.length]? = some x := by simp
/-- a Ratio -/
def rat (c : Cs) (q : Rat) : D := .obj c.kRatio [.int q.num, .int q.den]
theorem whole_int (c : Cs) (a : Int) (m : Mu) : F_is_whole c [.int a] m = .ok (.bl true) m := by
  simp [F_is_whole, env0, ans_bool, ans_int, tagOf, Ans.get, primNames]
theorem init_ok (c : Cs) (a : Int) {b : Int} (hb : b ≠ 0) (hl : b.natAbs.log2 < 9000) (m : Mu) :
    F_RatioD_initD c [.loc m.length, .int a, .int b] (m ++ [.ins c.cRatio []]) = .ok .non (m ++ [.ins c.cRatio [("own_top", .int (Rat.divInt a b).num), ("own_bottom", .int (Rat.divInt a b).den)]]) := by
  have h := common_ok c _ _ (abs_nn a) (abs_nn b) (m ++ [.ins c.cRatio []])
  rw [abs_gcd] at h
  have hd : ∀ z, divOk z (sg a b) = true := fun z => divOk_of (sg_ne a hb) (by have := sg_log a hb; omega)
  have hk : (("own_top" : Str) = "own_bottom") = False := by simp; decide +kernel
  by_cases h0 : b < 0
  · have e : ((Int.gcd a b : Nat) : Int) = - sg a b := by unfold sg; rw [if_neg (by omega)]; omega
    rw [e] at h
    simp only [h0, if_true, if_false] at h
    simp [F_RatioD_initD, env0, h, h0, hd, sg_num a hb, sg_den a hb, whole_int, hb, putD, hk]
  · have e : ((Int.gcd a b : Nat) : Int) = sg a b := by unfold sg; rw [if_pos (by omega)]
    rw [e] at h
    simp only [h0, if_true, if_false] at h
    simp [F_RatioD_initD, env0, h, h0, hd, sg_num a hb, sg_den a hb, whole_int, hb, putD, hk]
theorem mk_ratio (c : Cs) (a : Int) {b : Int} (hb : b ≠ 0) (hl : b.natAbs.log2 < 9000) {m : Mu} (hm : Cl m) :
    mkObj c.cRatio m (F_RatioD_initD c [.loc m.length, .int a, .int b] (m ++ [.ins c.cRatio []])) = .ok (rat c (Rat.divInt a b)) m := by
  rw [init_ok c a hb hl]
  simp [mkObj, hm, belows, below, rat, nsRatio]
theorem like_zip (c : Cs) (n : Nat) (e : En) (m : Mu) (he : e.length = 4) (ds : List D) (hl : ds.length ≤ sizeLine) (h : ∀ d ∈ ds, F_w_like c n [d, d] m = .ok (.bl true) m) :
    dCompL (dTupG 2 (dGcons (dName 2) (dGcons (dName 3) dGnil))) dYes (dFun (padF 2 [] (F_w_like c n)) (dCons (dVar 2) (dCons (dVar 3) dNil))) e (ds.map fun a => .tup [a, a]) m [] = .ok (List.replicate ds.length (.bl true)) m := by
  match e, he with
  | [a, b, x, y], _ =>
  rw [dCompL_map (fun _ => .bl true)]
  · rw [List.map_map, show [] ++ List.map ((fun x => D.bl true) ∘ fun a => D.tup [a, a]) ds = List.replicate ds.length (D.bl true) from List.eq_replicate_iff.mpr ⟨by simp, by simp⟩]
  · intro d hd
    obtain ⟨z, hz, rfl⟩ := List.mem_map.mp hd
    refine ⟨[a, b, some z, some z], by simp, by simp, by simp [h z hz]⟩
  · simpa using hl
theorem like_refl (c : Cs) (m : Mu) : ∀ (n : Nat) (d : D), plainD n d → F_w_like c n [d, d] m = .ok (.bl true) m
  | 0, _, h => h.elim
  | n + 1, .non, _ => by simp [F_w_like, env0, gIsN]
  | n + 1, .bl _, _ => by simp [F_w_like, env0, gIsN, ans_bool, ans_int, ans_list, ans_list_tuple, ans_str, ans_tuple, tagOf, Ans.get, primNames]
  | n + 1, .int _, _ => by simp [F_w_like, env0, gIsN, ans_bool, ans_int, ans_list, ans_list_tuple, ans_str, ans_tuple, tagOf, Ans.get, primNames]
  | n + 1, .str _, _ => by simp [F_w_like, env0, gIsN, ans_bool, ans_int, ans_list, ans_list_tuple, ans_str, ans_tuple, tagOf, Ans.get, primNames]
  | n + 1, .tup ds, h => by
    have z := like_zip c n [some (.tup ds), some (.tup ds), none, none] m rfl ds h.1 fun d hd => like_refl c m n d (h.2 d hd)
    simp [F_w_like, env0, gIsN, ans_bool, ans_int, ans_list, ans_list_tuple, ans_str, ans_tuple, tagOf, Ans.get, primNames, z, toBs_trues]
  | n + 1, .lst ds, h => by
    have z := like_zip c n [some (.lst ds), some (.lst ds), none, none] m rfl ds h.1 fun d hd => like_refl c m n d (h.2 d hd)
    simp [F_w_like, env0, gIsN, ans_bool, ans_int, ans_list, ans_list_tuple, ans_str, ans_tuple, tagOf, Ans.get, primNames, z, toBs_trues]
/-! ### fractions: laws of Rat -/
theorem dpos (q : Rat) : (0 : Int) < q.den := by have := q.den_pos; omega
theorem dne (q : Rat) : (q.den : Int) ≠ 0 := by have := dpos q; omega
theorem add_di (q r : Rat) : Rat.divInt (q.num * r.den + r.num * q.den) (q.den * r.den) = q + r := by
  rw [← Rat.divInt_add_divInt _ _ (dne q) (dne r), Rat.num_divInt_den, Rat.num_divInt_den]
theorem sub_di (q r : Rat) : Rat.divInt (q.num * r.den - r.num * q.den) (q.den * r.den) = q - r := by
  rw [← Rat.divInt_sub_divInt _ _ (dne q) (dne r), Rat.num_divInt_den, Rat.num_divInt_den]
theorem mul_di (q r : Rat) : Rat.divInt (q.num * r.num) (q.den * r.den) = q * r := by
  rw [← Rat.divInt_mul_divInt, Rat.num_divInt_den, Rat.num_divInt_den]
theorem neg_di (q : Rat) : Rat.divInt (-q.num) q.den = -q := by
  rw [← Rat.neg_divInt, Rat.num_divInt_den]
theorem div_di (q r : Rat) : Rat.divInt (q.num * r.den) (q.den * r.num) = q / r := by
  rw [Rat.div_def, ← Rat.num_divInt_den q, ← Rat.num_divInt_den r, Rat.inv_divInt, Rat.divInt_mul_divInt]
  simp only [Rat.num_divInt_den]
/-- what is left of a turn -/
def mom (q : Rat) : Rat := q - (q.floor : Rat)
theorem mom_di (q : Rat) : Rat.divInt (q.num % q.den) q.den = mom q := by
  unfold mom
  have h : q.num % (q.den : Int) = q.num - q.den * q.floor := by rw [Rat.floor_def, Int.emod_def]
  rw [h]
  have e := sub_di q (q.floor : Rat)
  simp only [Rat.den_intCast, Rat.num_intCast] at e
  rw [← e]
  congr 1
  · rw [Int.mul_comm (q.den : Int)]; simp
  · simp
theorem red_num {a : Int} {b : Nat} (hb : b ≠ 0) (h : Nat.Coprime a.natAbs b) : (Rat.divInt a b).num = a ∧ (Rat.divInt a b).den = b := by
  have hg : Int.gcd (b : Int) a = 1 := by rw [Int.gcd_comm]; simpa [Int.gcd] using h
  constructor
  · rw [Rat.num_divInt, hg, Int.sign_eq_one_of_pos (by omega)]; simp
  · rw [Rat.den_divInt, hg, if_neg (by omega)]; simp
theorem mom_red (q : Rat) : (mom q).num = q.num % q.den ∧ (mom q).den = q.den := by
  rw [← mom_di q]
  refine red_num q.den_nz ?_
  have h := q.reduced
  unfold Nat.Coprime at h ⊢
  have h2 : Int.gcd q.num q.den = 1 := by simpa [Int.gcd] using h
  have h3 : Int.gcd (q.num % q.den) q.den = 1 := by
    rw [Int.emod_def, Int.gcd_comm]
    simp [Int.gcd_comm, h2]
  simpa [Int.gcd] using h3
theorem one_sub_red (q : Rat) : (1 - q).num = q.den - q.num ∧ (1 - q).den = q.den := by
  have e := sub_di 1 q
  simp only [Rat.one_num, Rat.one_den, Int.one_mul, Int.mul_one, Int.natCast_one] at e
  rw [← e]
  refine red_num q.den_nz ?_
  have h := q.reduced
  have h2 : Int.gcd q.num q.den = 1 := by simpa [Int.gcd, Nat.Coprime] using h
  have h3 : Int.gcd ((q.den : Int) - q.num) q.den = 1 := by
    rw [Int.gcd_comm]
    simp [Int.gcd_comm, h2]
  simpa [Int.gcd, Nat.Coprime] using h3
theorem mom_nn (q : Rat) : 0 ≤ mom q := by unfold mom; have := Rat.floor_le q; grind
theorem mom_lt (q : Rat) : mom q < 1 := by unfold mom; have := Rat.lt_floor_add_one q; simp only [Rat.intCast_add] at this; grind
theorem mom_int (q : Rat) (k : Int) : mom (q + k) = mom q := by
  unfold mom; rw [Rat.floor_add_intCast, Rat.intCast_add]; grind
theorem mom_of {q r : Rat} {k : Int} (h0 : 0 ≤ r) (h1 : r < 1) (e : q = r + k) : mom q = r := by
  rw [e, mom_int]
  unfold mom
  have h : r.floor = 0 := by
    have a := Rat.le_floor_iff (x := 0) (a := r)
    have b := Rat.floor_lt_iff (a := r) (x := 1)
    simp at a b
    have := a.mpr h0; have := b.mpr h1; omega
  rw [h]; grind
theorem mom_ex (q : Rat) : ∃ k : Int, q = mom q + k := ⟨q.floor, by unfold mom; grind⟩
theorem mom_neg (q : Rat) : mom (-q) = if mom q = 0 then 0 else 1 - mom q := by
  obtain ⟨k, hk⟩ := mom_ex q
  have h0 := mom_nn q
  have h1 := mom_lt q
  split
  · rename_i h
    refine mom_of (k := -k) (by simp) (by decide) ?_
    rw [hk, h]; simp only [Rat.intCast_neg]; grind
  · rename_i h
    refine mom_of (k := -k - 1) (by grind) (by grind) ?_
    rw [hk]; simp only [Rat.intCast_neg, Rat.intCast_sub]; grind
/-- how far from the nearest turn -/
def aw (q : Rat) : Rat := if 1 - mom q < mom q then 1 - mom q else mom q
theorem aw_neg (q : Rat) : aw (-q) = aw q := by
  unfold aw
  rw [mom_neg]
  have h0 := mom_nn q
  have h1 := mom_lt q
  by_cases h : mom q = 0
  · simp [h]
  · simp only [h, if_false]; grind
theorem aw_int (q : Rat) (k : Int) : aw (q + k) = aw q := by unfold aw; rw [mom_int]
/-! ### sizes -/
def Bi (k : Nat) (a : Int) : Prop := a.natAbs < 2 ^ k
structure Sz (k : Nat) (q : Rat) : Prop where
  n : Bi k q.num
  d : q.den < 2 ^ k
theorem Bi.mono {j k : Nat} {a : Int} (h : Bi j a) (hk : j ≤ k) : Bi k a := Nat.lt_of_lt_of_le h (Nat.pow_le_pow_right (by decide) hk)
theorem Sz.mono {j k : Nat} {a : Rat} (h : Sz j a) (hk : j ≤ k) : Sz k a := ⟨h.n.mono hk, Nat.lt_of_lt_of_le h.d (Nat.pow_le_pow_right (by decide) hk)⟩
theorem Bi.mul {j k : Nat} {a b : Int} (h : Bi j a) (h' : Bi k b) : Bi (j + k) (a * b) := by
  unfold Bi at *
  rw [Int.natAbs_mul, Nat.pow_add]
  by_cases hb : a.natAbs = 0
  · rw [hb, Nat.zero_mul]; exact Nat.mul_pos (Nat.two_pow_pos _) (Nat.two_pow_pos _)
  · exact Nat.lt_of_lt_of_le ((Nat.mul_lt_mul_left (by omega)).mpr h') (Nat.mul_le_mul_right _ (Nat.le_of_lt h))
theorem Bi.add {k : Nat} {a b : Int} (h : Bi k a) (h' : Bi k b) : Bi (k + 1) (a + b) := by
  unfold Bi at *; rw [Nat.pow_succ]; omega
theorem Bi.sub {k : Nat} {a b : Int} (h : Bi k a) (h' : Bi k b) : Bi (k + 1) (a - b) := by
  unfold Bi at *; rw [Nat.pow_succ]; omega
theorem Bi.neg {k : Nat} {a : Int} (h : Bi k a) : Bi k (-a) := by unfold Bi at *; omega
theorem Bi.emod {k : Nat} {b : Int} (a : Int) (h : Bi k b) (h0 : b ≠ 0) : Bi k (a % b) := by
  unfold Bi at *
  have h1 := Int.emod_nonneg a h0
  have h2 := Int.emod_lt a h0
  omega
theorem Bi.log {k : Nat} {a : Int} (h : Bi k a) : a.natAbs.log2 ≤ k := log_le (Nat.le_of_lt h)
theorem Bi.lit {k : Nat} {a : Int} (h : decide (a.natAbs < 2 ^ k) = true) : Bi k a := by unfold Bi; exact of_decide_eq_true h
theorem Bi.lt {k : Nat} {a : Int} (h1 : -(2 ^ k : Nat) < a) (h2 : a < (2 ^ k : Nat)) : Bi k a := by unfold Bi; omega
theorem Sz.bd {k : Nat} {q : Rat} (h : Sz k q) : Bi k q.den := by have := h.d; unfold Bi; simpa using this
theorem mul_Bi {j k : Nat} {a b : Int} (h : Bi j a) (h' : Bi k b) (hk : j + k < 1000000) : mulOk a b = true := mulOk_of (by have := h.log; have := h'.log; omega)
theorem nn {j k : Nat} {q r : Rat} (h : Sz j q) (h' : Sz k r) (hk : j + k < 1000000 := by decide) : mulOk q.num r.num = true := mul_Bi h.n h'.n hk
theorem nd {j k : Nat} {q r : Rat} (h : Sz j q) (h' : Sz k r) (hk : j + k < 1000000 := by decide) : mulOk q.num r.den = true := mul_Bi h.n h'.bd hk
theorem dn {j k : Nat} {q r : Rat} (h : Sz j q) (h' : Sz k r) (hk : j + k < 1000000 := by decide) : mulOk q.den r.num = true := mul_Bi h.bd h'.n hk
theorem dd {j k : Nat} {q r : Rat} (h : Sz j q) (h' : Sz k r) (hk : j + k < 1000000 := by decide) : mulOk q.den r.den = true := mul_Bi h.bd h'.bd hk
theorem ddl {j k : Nat} {q r : Rat} (h : Sz j q) (h' : Sz k r) (hk : j + k < 9000) : ((q.den : Int) * r.den).natAbs.log2 < 9000 := by have := (h.bd.mul h'.bd).log; omega
theorem Sz.di {k : Nat} {a b : Int} (h : Bi k a) (h' : Bi k b) (hb : b ≠ 0) : Sz k (Rat.divInt a b) := by
  constructor
  · unfold Bi
    rw [Rat.num_divInt]
    have : (b.sign * a / (b.gcd a : Int)).natAbs ≤ a.natAbs := by
      have h1 : (b.sign * a).natAbs = a.natAbs := by rw [Int.natAbs_mul, Int.natAbs_sign_of_ne_zero hb, Nat.one_mul]
      rw [← h1]
      exact Int.natAbs_ediv_le_natAbs _ _
    exact Nat.lt_of_le_of_lt this h
  · rw [Rat.den_divInt, if_neg hb]
    exact Nat.lt_of_le_of_lt (Nat.div_le_self _ _) h'
theorem mul_ne {a b : Int} (h : a ≠ 0) (h' : b ≠ 0) : a * b ≠ 0 := Int.mul_ne_zero h h'
theorem Sz.add {j k : Nat} {q r : Rat} (h : Sz j q) (h' : Sz k r) : Sz (j + k + 1) (q + r) := by
  rw [← add_di]
  refine Sz.di ?_ ((h.bd.mul h'.bd).mono (by omega)) (mul_ne (dne q) (dne r))
  exact (h.n.mul h'.bd).add ((h'.n.mul h.bd).mono (by omega))
theorem Sz.sub {j k : Nat} {q r : Rat} (h : Sz j q) (h' : Sz k r) : Sz (j + k + 1) (q - r) := by
  rw [← sub_di]
  refine Sz.di ?_ ((h.bd.mul h'.bd).mono (by omega)) (mul_ne (dne q) (dne r))
  exact (h.n.mul h'.bd).sub ((h'.n.mul h.bd).mono (by omega))
theorem Sz.mul {j k : Nat} {q r : Rat} (h : Sz j q) (h' : Sz k r) : Sz (j + k) (q * r) := by
  rw [← mul_di]
  exact Sz.di (h.n.mul h'.n) (h.bd.mul h'.bd) (mul_ne (dne q) (dne r))
theorem Sz.neg {j : Nat} {q : Rat} (h : Sz j q) : Sz j (-q) := by
  rw [← neg_di]
  exact Sz.di h.n.neg h.bd (dne q)
theorem Sz.mom {j : Nat} {q : Rat} (h : Sz j q) : Sz j (mom q) := by
  rw [← mom_di]
  exact Sz.di (h.bd.emod _ (dne q)) h.bd (dne q)
theorem Sz.int {j : Nat} {k : Int} (h : Bi j k) (hj : 0 < j) : Sz j (k : Rat) := ⟨by simpa using h, by simpa using Nat.one_lt_two_pow (by omega)⟩
theorem num_ne {q : Rat} (h : q ≠ 0) : q.num ≠ 0 := fun z => h (Rat.num_eq_zero.mp z)
theorem Sz.div {j k : Nat} {q r : Rat} (h : Sz j q) (h' : Sz k r) (h0 : r ≠ 0) : Sz (j + k) (q / r) := by
  rw [← div_di]
  exact Sz.di (h.n.mul h'.bd) (h.bd.mul h'.n) (mul_ne (dne q) (num_ne h0))
/-! ### Ratio -/
@[simp ↓] theorem gMul_rat (c : Cs) (q : Rat) (y : D) (m : Mu) : gMul (rat c q) y m = .stuck := rfl
@[simp ↓] theorem gAdd_rat (c : Cs) (q : Rat) (y : D) (m : Mu) : gAdd (rat c q) y m = .stuck := rfl
@[simp ↓] theorem gSub_rat (c : Cs) (q : Rat) (y : D) (m : Mu) : gSub (rat c q) y m = .stuck := rfl
@[simp] theorem insOf_rat (m : Mu) (c : Cs) (q : Rat) : insOf m (rat c q) = some (c.cRatio, nsRatio, [.int q.num, .int q.den]) := rfl
@[simp] theorem kRatio_a (c : Cs) : (c.kRatio).a = c.cRatio := rfl
@[simp] theorem kRatio_ns (c : Cs) : (c.kRatio).ns = nsRatio := rfl
@[simp] theorem toV_rat (c : Cs) (q : Rat) (m : Mu) : tagOf m (rat c q) = some (.own c.cRatio) := rfl
theorem top_ok (c : Cs) (q : Rat) (m : Mu) : F_Ratio_top c [rat c q] m = .ok (.int q.num) m := by simp [F_Ratio_top, env0]
theorem bottom_ok (c : Cs) (q : Rat) (m : Mu) : F_Ratio_bottom c [rat c q] m = .ok (.int q.den) m := by simp [F_Ratio_bottom, env0]
theorem rmk (c : Cs) {k : Nat} {a b : Int} {m : Mu} (hb : b ≠ 0) (hl : Bi k b) (hk : k < 9000) (hm : Cl m) :
    mkObj c.cRatio m (F_RatioD_initD c [.loc m.length, .int a, .int b] (m ++ [.ins c.cRatio []])) = .ok (rat c (Rat.divInt a b)) m := mk_ratio c a hb (by have := hl.log; omega) hm
theorem add_ok (c : Cs) {j k : Nat} {q r : Rat} {m : Mu} (h : Sz j q) (h' : Sz k r) (hm : Cl m) (hk : j + k < 9000 := by decide) : F_RatioD_addD c [rat c q, rat c r] m = .ok (rat c (q + r)) m := by
  have e := rmk c (a := q.num * r.den + r.num * q.den) (mul_ne (dne q) (dne r)) (h.bd.mul h'.bd) hk hm
  rw [add_di] at e
  simp [F_RatioD_addD, env0, top_ok, bottom_ok, nd h h' (by omega), nd h' h (by omega), dd h h' (by omega), e]
theorem sub_ok (c : Cs) {j k : Nat} {q r : Rat} {m : Mu} (h : Sz j q) (h' : Sz k r) (hm : Cl m) (hk : j + k < 9000 := by decide) : F_RatioD_subD c [rat c q, rat c r] m = .ok (rat c (q - r)) m := by
  have e := rmk c (a := q.num * r.den - r.num * q.den) (mul_ne (dne q) (dne r)) (h.bd.mul h'.bd) hk hm
  rw [sub_di] at e
  simp [F_RatioD_subD, env0, top_ok, bottom_ok, nd h h' (by omega), nd h' h (by omega), dd h h' (by omega), e]
theorem moment_ok (c : Cs) {j : Nat} {q : Rat} {m : Mu} (h : Sz j q) (hm : Cl m) (hk : j < 9000 := by decide) : F_Ratio_moment c [rat c q] m = .ok (rat c (mom q)) m := by
  have e := rmk c (a := q.num % q.den) (dne q) h.bd hk hm
  rw [mom_di] at e
  simp [F_Ratio_moment, env0, q.den_pos, e]
theorem below_ok (c : Cs) {j k : Nat} {q r : Rat} {m : Mu} (h : Sz j q) (h' : Sz k r) (hk : j + k < 9000 := by decide) : F_Ratio_is_below c [rat c q, rat c r] m = .ok (.bl (decide (q < r))) m := by
  simp [F_Ratio_is_below, env0, top_ok, bottom_ok, nd h h' (by omega), nd h' h (by omega), Rat.lt_iff]
theorem one_sz : Sz 1 1 := ⟨by unfold Bi; decide, by decide⟩
theorem rmk1 (c : Cs) {k : Nat} {a : Int} {m : Mu} (hm : Cl m) :
    mkObj c.cRatio m (F_RatioD_initD c [.loc m.length, .int a, .int 1] (m ++ [.ins c.cRatio []])) = .ok (rat c (a : Rat)) m := by
  rw [rmk c (k := 1) (by decide) (by unfold Bi; decide) (by decide) hm]
  congr 2
  rw [Rat.divInt_eq_div]; simp only [Rat.intCast_one]; grind
/-! ### the law's own fractions -/
theorem mom_fr (q : Rat) : fr (mom q) = .tup [.int (q.num % q.den), .int q.den] := by
  unfold fr; rw [(mom_red q).1, (mom_red q).2]
theorem aw_fr (q : Rat) : fr (aw q) = if (mom q).num * 2 ≤ (mom q).den then fr (mom q) else .tup [.int ((mom q).den - (mom q).num), .int (mom q).den] := by
  have h := one_sub_red (mom q)
  have z : (1 - mom q < mom q) ↔ ¬ (mom q).num * 2 ≤ (mom q).den := by
    rw [Rat.lt_iff, h.1, h.2]
    have hp := dpos (mom q)
    rw [Int.mul_lt_mul_right hp]; omega
  unfold aw
  by_cases k : (mom q).num * 2 ≤ (mom q).den
  · rw [if_pos k, if_neg (by rw [z]; simpa using k)]
  · rw [if_neg k, if_pos (z.mpr k), fr, h.1, h.2]
theorem fr_plain (q : Rat) (n : Nat) : plainD (n + 2) (fr q) := by simp [fr, plainD, sizeLine]
theorem begin_ok (c : Cs) (ns : List Int) (hl : ns.length ≤ 63) : ∃ m, F_w_begin c [.lst (ns.map .int)] [] = .ok (.loc 0) m ∧ BagOk m ∧ Cl m := by
  have hs : sizeLine = 16777216 := rfl
  have hx : cutD (ns.map .int) none (some 63) = (ns.take 63).map D.int := by
    simp [cutD, HT.sIx]
  have hm : ∀ k : Nat, k ≤ 63 → mulOk 17 k = true := fun k hk => mulOk_lt (by omega) (by omega) (by omega) (by omega)
  have hm2 := hm (min 63 ns.length) (by omega)
  have hB : BagO (bagO (ns.take 63) 0 0 (100050 + 17 * (min 63 ns.length : Nat))) := bagO_mk (by omega) (by omega) (by omega) (by omega)
  refine ⟨[bagO (ns.take 63) 0 0 (100050 + 17 * (min 63 ns.length : Nat))], ?_, ⟨_, rfl, hB⟩, ?_⟩
  · simp [F_w_begin, env0, hx, hs, hm2, bagO]
  · intro o ho
    simp at ho
    subst ho
    exact hB.below _
@[simp ↓] theorem dCompL_cons (g : DG) (c : DT) (b : DE) (e : En) (d : D) (ds : List D) (m : Mu) (acc : List D) : dCompL g c b e (d :: ds) m acc = match g d e with
    | none => .stuck
    | some e1 => match c e1 m with
      | .ok true m1 => match b e1 m1 with
        | .ok x m2 => if acc.length < sizeLine then dCompL g c b e ds m2 (acc ++ [x]) else .stuck
        | _ => .stuck
      | .ok false m1 => dCompL g c b e ds m1 acc
      | _ => .stuck := rfl
theorem below_mono {j k : Nat} (h : j ≤ k) : ∀ d : D, below j d = true → below k d = true
  | .loc n, e => by unfold below at e ⊢; have := of_decide_eq_true e; exact decide_eq_true (by omega)
  | .tup ds, e => by unfold below at e ⊢; exact belows_mono' h ds e
  | .lst ds, e => by unfold below at e ⊢; exact belows_mono' h ds e
  | .obj _ ds, e => by unfold below at e ⊢; exact belows_mono' h ds e
  | .xob _ _, e => by unfold below at e; cases e
  | .clo _ _, e => by unfold below at e; cases e
  | .lam _ _, e => by unfold below at e; cases e
  | .non, _ => rfl
  | .bl _, _ => rfl
  | .int _, _ => rfl
  | .str _, _ => rfl
  | .val _, _ => rfl
where belows_mono' {j k : Nat} (h : j ≤ k) : ∀ ds : List D, belows j ds = true → belows k ds = true
  | [], _ => rfl
  | d :: ds, e => by
    unfold belows at e ⊢
    obtain ⟨h1, h2⟩ := Bool.and_eq_true_iff.mp e
    exact Bool.and_eq_true_iff.mpr ⟨below_mono h d h1, belows_mono' h ds h2⟩
theorem belows_mono {j k : Nat} (h : j ≤ k) (ds : List D) (e : belows j ds = true) : belows k ds = true := by
  have := below_mono h (.tup ds) (by unfold below; exact e)
  unfold below at this; exact this
theorem Mo.below_mono {j' k' : Nat} (h : j' ≤ k') {o : Mo} (e : o.below j' = true) : o.below k' = true := by
  cases o with
  | lst ds => exact belows_mono h ds e
  | ins C fs => exact belows_mono h _ e
  | exo C k => cases k with
    | none => rfl
    | some k => exact decide_eq_true (Nat.lt_of_lt_of_le (of_decide_eq_true (show decide (k < j') = true from e)) h)
  | exd fs => exact belows_mono h _ e
  | dik kvs => exact belows_mono h _ e
  | dit kvs => exact belows_mono h _ e
theorem _root_.DL.Cl.snoc {m : Mu} (h : Cl m) {o : Mo} (ho : o.below (m.length + 1) = true) : Cl (m ++ [o]) := by
  intro q hq
  rw [List.length_append, List.length_singleton]
  rcases List.mem_append.mp hq with z | z
  · exact Mo.below_mono (Nat.le_succ _) (h q z)
  · have : q = o := List.mem_singleton.mp z
    subst this; exact ho
theorem _root_.DL.Cl.ins0 {m : Mu} (h : Cl m) (C : Addr) : Cl (m ++ [.ins C []]) := h.snoc rfl
theorem _root_.DL.Cl.ins1 {m : Mu} (h : Cl m) (C : Addr) {f : Str} {d : D} (hd : below 0 d = true) : Cl (m ++ [.ins C [(f, d)]]) := h.snoc (by
  show belows _ [d] = true
  simp [belows, below_mono (Nat.zero_le _) d hd])
theorem rat_below (c : Cs) (q : Rat) (n : Nat) : below n (rat c q) = true := rfl
theorem fr_below (q : Rat) (n : Nat) : below n (fr q) = true := rfl
/-! ### arcs -/
theorem isratio_ok (c : Cs) (q : Rat) (m : Mu) : F_is_ratio c [rat c q] m = .ok (.bl true) m := by
  simp [F_is_ratio, env0, ans_Ratio__Ratio, Ans.get]
theorem eq_ok (c : Cs) (q r : Rat) (m : Mu) : F_RatioD_eqD c [rat c q, rat c r] m = .ok (.bl (decide (q = r))) m := by
  have h : (q = r) ↔ (q.num = r.num ∧ q.den = r.den) := ⟨fun e => by subst e; exact ⟨rfl, rfl⟩, fun e => Rat.ext e.1 e.2⟩
  by_cases h1 : q.num = r.num
  · by_cases h2 : q.den = r.den
    · simp [F_RatioD_eqD, env0, ans_Ratio__Ratio, Ans.get, top_ok, bottom_ok, h, h1, h2]
    · have h3 : ¬ (q.den : Int) = r.den := by omega
      simp [F_RatioD_eqD, env0, ans_Ratio__Ratio, Ans.get, top_ok, bottom_ok, h, h1, h2, h3]
  · simp [F_RatioD_eqD, env0, ans_Ratio__Ratio, Ans.get, top_ok, bottom_ok, h, h1]
theorem between_ok (c : Cs) {k : Nat} {q : Rat} (h : Sz k q) (lo hi : Int) {m : Mu} (hm : Cl m) (h1 : Bi 100 lo) (h2 : Bi 100 hi) (hk : k < 8000 := by decide) : F_is_between c [rat c q, .int lo, .int hi] m = .ok (.bl (decide ((lo : Rat) ≤ q ∧ q ≤ (hi : Rat)))) m := by
  have e1 := rmk1 c (a := lo) hm (k := 0)
  have e2 := rmk1 c (a := hi) hm (k := 0)
  have s1 : Sz 100 (lo : Rat) := Sz.int h1 (by decide)
  have s2 : Sz 100 (hi : Rat) := Sz.int h2 (by decide)
  have b1 := below_ok c h s1 (m := m) (by omega)
  have b2 := below_ok c s2 h (m := m) (by omega)
  have n1 : ((lo : Rat) ≤ q) ↔ ¬ q < (lo : Rat) := by rw [Rat.not_lt]
  have n2 : (q ≤ (hi : Rat)) ↔ ¬ (hi : Rat) < q := by rw [Rat.not_lt]
  by_cases z1 : q < (lo : Rat)
  · simp [F_is_between, env0, ans_Ratio__Ratio, Ans.get, e1, b1, z1, n1]
  · by_cases z2 : (hi : Rat) < q
    · simp [F_is_between, env0, ans_Ratio__Ratio, Ans.get, e1, e2, b1, b2, z1, z2, n1, n2, gIsN]
    · simp [F_is_between, env0, ans_Ratio__Ratio, Ans.get, e1, e2, b1, b2, z1, z2, n1, n2, gIsN]
/-- an Arc -/
def arc (c : Cs) (s w : Rat) : D := .obj c.kArc [rat c s, rat c w]
@[simp] theorem insOf_arc (m : Mu) (c : Cs) (s w : Rat) : insOf m (arc c s w) = some (c.cArc, nsArc, [rat c s, rat c w]) := rfl
@[simp] theorem kArc_a (c : Cs) : (c.kArc).a = c.cArc := rfl
@[simp] theorem kArc_ns (c : Cs) : (c.kArc).ns = nsArc := rfl
@[simp] theorem tag_arc (c : Cs) (s w : Rat) (m : Mu) : tagOf m (arc c s w) = some (.own c.cArc) := rfl
theorem arc_below (c : Cs) (s w : Rat) (n : Nat) : below n (arc c s w) = true := rfl
theorem arc_init (c : Cs) {j k : Nat} {s w : Rat} (hs : Sz j s) (hw : Sz k w) (h0 : 0 ≤ w) (h1 : w ≤ 1) {m : Mu} (hm : Cl m) (hj : j < 8000 := by decide) (hk : k < 8000 := by decide) :
    F_ArcD_initD c [.loc m.length, rat c s, rat c w] (m ++ [.ins c.cArc []]) = .ok .non (m ++ [.ins c.cArc [("own_start", rat c (mom s)), ("own_width", rat c w)]]) := by
  have hm1 := hm.ins0 c.cArc
  have e1 := between_ok c hw 0 1 hm1 (by unfold Bi; decide) (by unfold Bi; decide) (by omega)
  have e2 := moment_ok c hs hm1 (by omega)
  have z : decide (((0 : Int) : Rat) ≤ w ∧ w ≤ ((1 : Int) : Rat)) = true := by simp [h0, h1]
  rw [z] at e1
  have hk : (("own_start" : Str) = "own_width") = False := by simp; decide +kernel
  simp [F_ArcD_initD, env0, isratio_ok, e1, e2, putD, hk]
theorem arc_mk (c : Cs) {j k : Nat} {s w : Rat} (hs : Sz j s) (hw : Sz k w) (h0 : 0 ≤ w) (h1 : w ≤ 1) {m : Mu} (hm : Cl m) (hj : j < 8000 := by decide) (hk : k < 8000 := by decide) :
    mkObj c.cArc m (F_ArcD_initD c [.loc m.length, rat c s, rat c w] (m ++ [.ins c.cArc []])) = .ok (arc c (mom s) w) m := by
  rw [arc_init c hs hw h0 h1 hm hj hk]
  simp [mkObj, hm, belows, rat_below, arc, nsArc]
theorem arc_start (c : Cs) (s w : Rat) (m : Mu) : F_Arc_start c [arc c s w] m = .ok (rat c s) m := by simp [F_Arc_start, env0]
theorem arc_width (c : Cs) (s w : Rat) (m : Mu) : F_Arc_width c [arc c s w] m = .ok (rat c w) m := by simp [F_Arc_width, env0]
theorem arc_offset (c : Cs) {j k : Nat} {s w t : Rat} (hs : Sz j s) (ht : Sz k t) {m : Mu} (hm : Cl m) (hk : k + j < 8000 := by decide) : F_Arc_offset c [arc c s w, rat c t] m = .ok (rat c (mom (t - s))) m := by
  have e1 := sub_ok c ht hs hm (by omega)
  have e2 := moment_ok c (ht.sub hs) hm (by omega)
  simp [F_Arc_offset, env0, e1, e2]
/-! ### over ranges -/
theorem comp_rng {g : DG} {cc : DT} {b : DE} {e : En} {m : Mu} (n : Nat) (f : Nat → D) (h : ∀ k : Nat, k < n → ∃ e1, g (.int k) e = some e1 ∧ cc e1 m = .ok true m ∧ b e1 m = .ok (f k) m) (hl : n ≤ sizeLine) :
    dCompL g cc b e (rngD 0 n) m [] = .ok ((List.range n).map f) m := by
  have hf : ∀ d, d ∈ rngD 0 n → ∃ k : Nat, k < n ∧ d = .int k := fun d hd => by
    unfold rngD at hd
    obtain ⟨k, hk, rfl⟩ := List.mem_map.mp hd
    exact ⟨k, List.mem_range.mp hk, by simp⟩
  rw [dCompL_map (fun d => match d with
    | .int i => f i.toNat
    | d => d)]
  · simp [rngD, Function.comp_def]
  · intro d hd
    obtain ⟨k, hk, rfl⟩ := hf d hd
    obtain ⟨e1, h1, h2, h3⟩ := h k hk
    exact ⟨e1, h1, h2, by simpa using h3⟩
  · simpa [rngD] using hl
theorem toBs_rng (n : Nat) (p : Nat → Bool) : toBs ((List.range n).map fun k => .bl (p k)) = some ((List.range n).map p) := by
  have : ∀ l : List Nat, toBs (l.map fun k => .bl (p k)) = some (l.map p) := fun l => by
    induction l with
    | nil => rfl
    | cons a l ih => simp [toBs, ih]
  exact this _
theorem isin_ok (c : Cs) (s a w n : Int) (hn : 0 < n) (m : Mu) : F_w_is_in c [.int s, .int a, .int w, .int n] m = .ok (.bl (decide ((s - a) % n ≤ w))) m := by
  simp [F_w_is_in, env0, hn]
theorem mul2 {a : Int} (h : -(2 ^ 60 : Nat) < a) (h2 : a < (2 ^ 60 : Nat)) : mulOk 2 a = true := mulOk_lt (by omega) (by omega) (by omega) (by omega)
theorem mul2' {a : Int} (h : -(2 ^ 60 : Nat) < a) (h2 : a < (2 ^ 60 : Nat)) : mulOk a 2 = true := mulOk_lt (by omega) (by omega) (by omega) (by omega)
/-- one arc within another, by the fine cycle -/
theorem inside_iff {a w b v P : Int} (hP : 0 < P) (ha : 0 ≤ a ∧ a < P) (hw : 0 ≤ w ∧ w ≤ P) (hb : 0 ≤ b ∧ b < P) (hv : 0 ≤ v ∧ v ≤ P) :
    ((List.range (2 * w + 1).toNat).all fun k => decide ((2 * a + k - 2 * b) % (2 * P) ≤ 2 * v)) = decide (v = P ∨ (a - b) % P + w ≤ v) := by
  rw [Bool.eq_iff_iff, List.all_eq_true, decide_eq_true_iff]
  have d1 := mod_b (a := a - b) hP
  have hd : ∃ q, a - b = (a - b) % P + P * q := ⟨(a - b) / P, by have := Int.emod_add_mul_ediv (a - b) P; omega⟩
  obtain ⟨q, hq⟩ := hd
  generalize (a - b) % P = d at *
  have key : ∀ k : Int, (2 * a + k - 2 * b) % (2 * P) = (2 * d + k) % (2 * P) := fun k => by
    have : 2 * a + k - 2 * b = (2 * d + k) + (2 * P) * q := by rw [Int.mul_assoc]; omega
    rw [this, Int.add_mul_emod_self_left]
  constructor
  · intro h
    rcases Classical.em (v = P ∨ d + w ≤ v) with z | z
    · exact z
    · exfalso
      have z1 : ¬ v = P := fun e => z (.inl e)
      have z2 : ¬ d + w ≤ v := fun e => z (.inr e)
      by_cases h2 : 2 * d ≤ 2 * v + 1
      · have hk := h (2 * v + 1 - 2 * d).toNat (List.mem_range.mpr (by omega))
        rw [decide_eq_true_iff, key] at hk
        have e : 2 * d + ((2 * v + 1 - 2 * d).toNat : Int) = 2 * v + 1 := by omega
        rw [e, Int.emod_eq_of_lt (by omega) (by omega)] at hk
        omega
      · have hk := h 0 (List.mem_range.mpr (by omega))
        rw [decide_eq_true_iff, key] at hk
        have e : 2 * d + ((0 : Nat) : Int) = 2 * d := by omega
        rw [e, Int.emod_eq_of_lt (by omega) (by omega)] at hk
        omega
  · intro h k hk
    have hk := List.mem_range.mp hk
    rw [decide_eq_true_iff, key]
    have := mod_b (a := 2 * d + (k : Int)) (n := 2 * P) (by omega)
    rcases h with h | h
    · omega
    · by_cases z : 2 * d + (k : Int) < 2 * P
      · rw [Int.emod_eq_of_lt (by omega) z]; omega
      · omega
/-- moments of a whole number of parts -/
theorem di_sub (a b P : Int) : Rat.divInt a P - Rat.divInt b P = Rat.divInt (a - b) P := by
  rw [Rat.divInt_eq_div, Rat.divInt_eq_div, Rat.divInt_eq_div, Rat.intCast_sub]
  rw [Rat.div_def, Rat.div_def, Rat.div_def]; grind
theorem di_add (a b P : Int) : Rat.divInt a P + Rat.divInt b P = Rat.divInt (a + b) P := by
  rw [Rat.divInt_eq_div, Rat.divInt_eq_div, Rat.divInt_eq_div, Rat.intCast_add]
  rw [Rat.div_def, Rat.div_def, Rat.div_def]; grind
theorem di_le {a b P : Int} (hP : 0 < P) : Rat.divInt a P ≤ Rat.divInt b P ↔ a ≤ b := by
  have hp : (0 : Rat) < (P : Rat) := by rw [← Rat.intCast_zero]; exact Rat.intCast_lt_intCast.mpr hP
  rw [Rat.divInt_eq_div, Rat.divInt_eq_div]
  rw [← Rat.intCast_le_intCast (a := a) (b := b)]
  constructor
  · intro h
    have h2 := Rat.mul_le_mul_of_nonneg_right h (Rat.le_of_lt hp)
    rwa [Rat.div_mul_cancel (Rat.ne_of_gt hp), Rat.div_mul_cancel (Rat.ne_of_gt hp)] at h2
  · intro h
    rw [Rat.div_def, Rat.div_def]
    exact Rat.mul_le_mul_of_nonneg_right h (Rat.le_of_lt (Rat.inv_pos.mpr hp))
theorem di_inj {a b P : Int} (hP : 0 < P) : Rat.divInt a P = Rat.divInt b P ↔ a = b := by
  constructor
  · intro h
    have h1 : a ≤ b := (di_le hP).mp (by rw [h]; exact Rat.le_refl)
    have h2 : b ≤ a := (di_le hP).mp (by rw [h]; exact Rat.le_refl)
    omega
  · intro h; rw [h]
theorem di_self {P : Int} (hP : 0 < P) : Rat.divInt P P = 1 := Rat.divInt_self' (by omega)
theorem di_zero (P : Int) : Rat.divInt 0 P = 0 := Rat.zero_divInt P
theorem mom_divInt (a : Int) {P : Int} (hP : 0 < P) : mom (Rat.divInt a P) = Rat.divInt (a % P) P := by
  have d1 := mod_b (a := a) hP
  have hq : a = a % P + P * (a / P) := by have := Int.emod_add_mul_ediv a P; omega
  refine mom_of (k := a / P) ?_ ?_ ?_
  · rw [← di_zero P]; exact (di_le hP).mpr d1.1
  · rw [← di_self hP]
    rw [← Rat.not_le, di_le hP]; omega
  · have e : ((a / P : Int) : Rat) = Rat.divInt (P * (a / P)) P := by
      rw [Rat.divInt_eq_div, Rat.intCast_mul, Rat.div_def, Rat.mul_comm (P : Rat), Rat.mul_assoc, Rat.mul_inv_cancel, Rat.mul_one]
      have : (P : Rat) ≠ 0 := by rw [Ne, Rat.intCast_eq_zero_iff]; omega
      exact this
    rw [e, di_add, ← hq]
theorem mom_id {q : Rat} (h0 : 0 ≤ q) (h1 : q < 1) : mom q = q := mom_of (k := 0) h0 h1 (by grind)
theorem mom_mom (q : Rat) : mom (mom q) = mom q := mom_id (mom_nn q) (mom_lt q)
theorem mom_sub_mom (q r : Rat) : mom (mom q - mom r) = mom (q - r) := by
  obtain ⟨j, hj⟩ := mom_ex q
  obtain ⟨k, hk⟩ := mom_ex r
  have e : q - r = (mom q - mom r) + ((j - k : Int) : Rat) := by
    rw [Rat.intCast_sub]
    grind
  rw [e, mom_int]
theorem mom_add_mom (q r : Rat) : mom (mom q + r) = mom (q + r) := by
  obtain ⟨j, hj⟩ := mom_ex q
  have e : q + r = (mom q + r) + (j : Rat) := by grind
  rw [e, mom_int]
/-! ### texts of fractions -/
def itxt (i : Int) : Str := Str.ofString i.repr
def wtxt (q : Rat) : Str := if q.den = 1 then itxt q.num else itxt q.num ++ "/" ++ itxt q.den
theorem itxt_len {k : Nat} {i : Int} (h : Bi k i) (hk : k < 1900) : (itxt i).length ≤ 2000 := by
  have e := int_text_length_le (a := i) (k := 1900) (by decide) (by have := h.log; omega)
  unfold itxt
  rw [ofString_length]
  have e : i.repr.length ≤ 1900 + 1 := e
  omega
theorem slash_len : (Str.ofString "/").length = 1 := by decide +kernel
theorem wtxt_len {k : Nat} {q : Rat} (h : Sz k q) (hk : k < 1900) : (wtxt q).length ≤ 5000 := by
  have h1 := itxt_len h.n hk
  have h2 := itxt_len h.bd hk
  unfold wtxt
  split
  · omega
  · rw [Str.length_append, Str.length_append, slash_len]; omega
/-! ### more of fractions -/
theorem half_sz : Sz 2 (1/2) := ⟨by unfold Bi; decide +kernel, by decide +kernel⟩
theorem half_eq : Rat.divInt 1 2 = 1/2 := by decide +kernel
/-! ### more of arcs -/
theorem arc_eq (c : Cs) (s w t v : Rat) (m : Mu) : F_ArcD_eqD c [arc c s w, arc c t v] m = .ok (.bl (decide (s = t ∧ w = v))) m := by
  by_cases h1 : s = t
  · simp [F_ArcD_eqD, env0, ans_Arc__Arc, Ans.get, arc_start, arc_width, eq_ok, h1]
  · simp [F_ArcD_eqD, env0, ans_Arc__Arc, Ans.get, arc_start, arc_width, eq_ok, h1]
/-! ### names -/
def letters : Str := "abcdefghijklmnopqrstuvwxyz"
def sgn (k : Nat) : Str := ⟨#[97 + k]⟩
theorem letters_eq : letters.cps.toList = (List.range 26).map fun k => 97 + k := by decide +kernel
theorem letters_len : letters.length = 26 := by decide +kernel
/-- only small letters -/
def Low (x : Str) : Prop := ∀ ch ∈ x.cps.toList, 97 ≤ ch ∧ ch ≤ 122
structure Good (x : Str) : Prop where
  lo : 1 ≤ x.length
  hi : x.length ≤ 8
  low : Low x
theorem sgn_in : ∀ k < 26, occurs (sgn k) letters = true := by decide +kernel
theorem letter_at {k : Int} (h0 : 0 ≤ k) (h1 : k < 26) : atI letters.cps.toList k = some (97 + k.toNat) := by
  obtain ⟨j, rfl⟩ := Int.eq_ofNat_of_zero_le h0
  rw [letters_eq, DL.atI_nat, List.getElem?_map, List.getElem?_range (by omega)]
  simp
theorem ix_letter {k : Int} (h0 : 0 ≤ k) (h1 : k < 26) (m : Mu) : gIx (.str letters) (.int k) m = .ok (.str (sgn k.toNat)) m := by
  have hs : sizeLine = 16777216 := rfl
  have e : gIx (.str letters) (.int k) m = if letters.length ≤ sizeLine then (match atI letters.cps.toList k with
      | some ch => .ok (.str ⟨#[ch]⟩) m
      | none => .stuck) else .stuck := rfl
  rw [e, if_pos (by rw [letters_len, hs]; omega), letter_at h0 h1]
  rfl
theorem sgn_low {k : Nat} (h : k < 26) : Low (sgn k) := by
  intro ch hch
  have : ch = 97 + k := by simpa [sgn] using hch
  omega
theorem sgn_len (k : Nat) : (sgn k).length = 1 := rfl
theorem joinL_nil : ∀ ps : List (List Nat), TL.joinL [] ps = ps.flatten
  | [] => rfl
  | [p] => by simp [TL.joinL]
  | p :: q :: r => by
    show p ++ ([] ++ TL.joinL [] (q :: r)) = _
    rw [joinL_nil (q :: r)]; simp
/-- item by item -/
inductive Two (P : D → D → Prop) : List D → List D → Prop
  | nil : Two P [] []
  | cons {d x : D} {ds xs : List D} : P d x → Two P ds xs → Two P (d :: ds) (x :: xs)
theorem Two.len {P : D → D → Prop} : ∀ {ds xs : List D}, Two P ds xs → xs.length = ds.length
  | _, _, .nil => rfl
  | _, _, .cons _ t => by simp [Two.len t]
theorem Two.all {P : D → D → Prop} {Q : D → Prop} : ∀ {ds xs : List D}, Two P ds xs → (∀ d x, P d x → Q x) → ∀ x ∈ xs, Q x
  | _, _, .nil, _, _, h => nomatch h
  | _, _, .cons p t, f, x, h => by
    rcases List.mem_cons.mp h with e | e
    · subst e; exact f _ _ p
    · exact Two.all t f x e
/-- a comprehension whose elements are drawn -/
theorem comp_draw {g : DG} {cc : DT} {b : DE} {e : En} (P : D → D → Prop) : ∀ (ds acc : List D) (m : Mu), BagOk m →
    (∀ d ∈ ds, ∀ m, BagOk m → ∃ e1 x m', g d e = some e1 ∧ cc e1 m = .ok true m ∧ b e1 m = .ok x m' ∧ P d x ∧ Bgs m m') → acc.length + ds.length ≤ sizeLine →
    ∃ xs m', dCompL g cc b e ds m acc = .ok (acc ++ xs) m' ∧ Two P ds xs ∧ Bgs m m'
  | [], acc, m, hb, _, _ => ⟨[], m, by simp, .nil, hb.rfl'⟩
  | d :: ds, acc, m, hb, h, hl => by
    obtain ⟨e1, x, m', h1, h2, h3, h4, h5⟩ := h d (by simp) m hb
    obtain ⟨xs, m2, k1, k2, k3⟩ := comp_draw P ds (acc ++ [x]) m' (h5.bag hb) (fun y hy => h y (by simp [hy])) (by simp at hl ⊢; omega)
    refine ⟨x :: xs, m2, ?_, .cons h4 k2, h5.trans k3⟩
    rw [dCompL_cons, h1]
    simp only [h2, h3]
    rw [if_pos (by simp at hl; omega), k1]
    simp
theorem toSs_two {ds xs : List D} (h : Two (fun _ x => ∃ k, x = .str (sgn k) ∧ k < 26) ds xs) : ∃ ys, toSs xs = some ys ∧ ys.length = ds.length ∧ ∀ y ∈ ys, Low y ∧ y.length = 1 := by
  induction h with
  | nil => exact ⟨[], rfl, rfl, fun y h => nomatch h⟩
  | cons p t ih =>
    obtain ⟨k, rfl, hk⟩ := p
    obtain ⟨ys, h1, h2, h3⟩ := ih
    refine ⟨sgn k :: ys, by simp [toSs, h1], by simp [h2], fun y hy => ?_⟩
    rcases List.mem_cons.mp hy with e | e
    · subst e; exact ⟨sgn_low hk, rfl⟩
    · exact h3 y e
theorem join_low {ys : List Str} (h : ∀ y ∈ ys, Low y ∧ y.length = 1) : Low (Txt.join "" ys) ∧ (Txt.join "" ys).length = ys.length := by
  have e : (Txt.join "" ys).cps.toList = (ys.map fun y => y.cps.toList).flatten := by
    rw [TL.join_eq]
    have := TL.tl_join "" ys
    have e0 : TL.tl ("" : Str) = [] := by decide +kernel
    rw [e0, joinL_nil] at this
    exact this
  constructor
  · intro ch hch
    rw [e] at hch
    obtain ⟨l, hl, hch⟩ := List.mem_flatten.mp hch
    obtain ⟨y, hy, rfl⟩ := List.mem_map.mp hl
    exact (h y hy).1 ch hch
  · have hl : ∀ zs : List Str, (∀ z ∈ zs, z.length = 1) → ((zs.map fun y => y.cps.toList).flatten).length = zs.length := fun zs => by
      induction zs with
      | nil => intro _; rfl
      | cons z zs ih =>
        intro hz
        have h1 := hz z (by simp)
        have h2 := ih fun y hy => hz y (by simp [hy])
        have e1 : z.cps.toList.length = 1 := by rw [← h1]; simp [Str.length]
        rw [List.map_cons, List.flatten_cons, List.length_append, h2, e1, List.length_cons]
        omega
    have e2 : (Txt.join "" ys).length = (Txt.join "" ys).cps.toList.length := by simp [Str.length]
    rw [e2, e, hl ys fun y hy => (h y hy).2]
def nameAt (stem : Str) (a f : Int) (k : Nat) : Str := cutS stem none (some a) ++ sgn ((f + 5 * k) % 26).toNat ++ cutS stem (some a) none
theorem cut_lo (x : Str) {a : Int} (h0 : 0 ≤ a) (h1 : a ≤ x.length) : (cutS x none (some a)).cps.toList = x.cps.toList.take a.toNat := by
  obtain ⟨j, rfl⟩ := Int.eq_ofNat_of_zero_le h0
  have hj : j ≤ x.length := by omega
  unfold cutS
  rw [HT.sIx_none, HT.sIx_nat]
  simp [Nat.min_eq_left hj]
theorem cut_hi (x : Str) {a : Int} (h0 : 0 ≤ a) (h1 : a ≤ x.length) : (cutS x (some a) none).cps.toList = x.cps.toList.drop a.toNat := by
  obtain ⟨j, rfl⟩ := Int.eq_ofNat_of_zero_le h0
  have hj : j ≤ x.length := by omega
  unfold cutS
  rw [HT.sIx_none, HT.sIx_nat]
  have hj' : min j x.length = j := Nat.min_eq_left hj
  rw [hj']
  show (List.take (x.length - j) (List.drop (Int.toNat (j : Int)) x.cps.toList)).toArray.toList = _
  simp only [Int.toNat_natCast]
  exact List.take_of_length_le (by simp [Str.length])
theorem nameAt_cps {x : Str} {a f : Int} (h0 : 0 ≤ a) (h1 : a ≤ x.length) (k : Nat) : (nameAt x a f k).cps.toList = x.cps.toList.take a.toNat ++ [97 + ((f + 5 * k) % 26).toNat] ++ x.cps.toList.drop a.toNat := by
  unfold nameAt
  have e : ∀ y z : Str, (y ++ z).cps.toList = y.cps.toList ++ z.cps.toList := fun y z => by rw [Str.cps_append]; simp
  rw [e, e, cut_lo x h0 h1, cut_hi x h0 h1]; rfl
theorem nameAt_good {x : Str} {a f : Int} (h0 : 0 ≤ a) (h1 : a ≤ x.length) (hx : x.length ≤ 7) (hl : Low x) (k : Nat) : Good (nameAt x a f k) := by
  have hc := nameAt_cps (f := f) h0 h1 k
  have hlen : (nameAt x a f k).length = x.length + 1 := by
    have e1 : (nameAt x a f k).length = (nameAt x a f k).cps.toList.length := by simp [Str.length]
    have e2 : x.length = x.cps.toList.length := by simp [Str.length]
    rw [e1, hc]
    simp only [List.length_append, List.length_take, List.length_drop, List.length_singleton]
    omega
  refine ⟨by omega, by omega, fun ch hch => ?_⟩
  rw [hc] at hch
  simp only [List.mem_append, List.mem_singleton] at hch
  rcases hch with (h | h) | h
  · exact hl ch (List.mem_of_mem_take h)
  · have := mod_b (a := f + 5 * k) (n := 26) (by decide); omega
  · exact hl ch (List.mem_of_mem_drop h)
theorem nameAt_inj {x : Str} {a f : Int} (h0 : 0 ≤ a) (h1 : a ≤ x.length) {j k : Nat} (hj : j < 26) (hk : k < 26) (h : nameAt x a f j = nameAt x a f k) : j = k := by
  have e := congrArg (fun y : Str => y.cps.toList) h
  simp only [nameAt_cps h0 h1, List.append_assoc, List.append_cancel_left_eq, List.singleton_append, List.cons.injEq, and_true] at e
  have := mod_b (a := f + 5 * j) (n := 26) (by decide)
  have := mod_b (a := f + 5 * k) (n := 26) (by decide)
  omega
/-! ### lights -/
theorem betweenN_ok (c : Cs) {k : Nat} {q : Rat} (h : Sz k q) (lo : Int) {m : Mu} (hm : Cl m) (h1 : Bi 100 lo) (hk : k < 8000 := by decide) : F_is_between c [rat c q, .int lo, .non] m = .ok (.bl (decide ((lo : Rat) ≤ q))) m := by
  have e1 := rmk1 c (a := lo) hm (k := 0)
  have s1 : Sz 100 (lo : Rat) := Sz.int h1 (by decide)
  have b1 := below_ok c h s1 (m := m) (by omega)
  have n1 : ((lo : Rat) ≤ q) ↔ ¬ q < (lo : Rat) := by rw [Rat.not_lt]
  by_cases z1 : q < (lo : Rat)
  · simp [F_is_between, env0, ans_Ratio__Ratio, Ans.get, e1, b1, z1, n1]
  · simp [F_is_between, env0, ans_Ratio__Ratio, Ans.get, e1, b1, z1, n1, gIsN]
theorem bool_ok (c : Cs) (q : Rat) (m : Mu) : F_RatioD_boolD c [rat c q] m = .ok (.bl (q.num != 0)) m := by
  simp [F_RatioD_boolD, env0]
/-! ### lights: texts, equality, room; rows of a law -/
theorem sp_len : (Str.ofString " ").length = 1 := by decide +kernel
def ltx (x : Str) (s o b : Rat) : Str := x ++ Str.ofString " " ++ wtxt s ++ Str.ofString " " ++ wtxt o ++ Str.ofString " " ++ wtxt b
theorem ltx_len {j k l : Nat} {x : Str} {s o b : Rat} (hx : x.length ≤ 100) (hs : Sz j s) (ho : Sz k o) (hb : Sz l b) (hk : j + k + l < 1900) : (ltx x s o b).length ≤ 20000 := by
  have l1 := wtxt_len hs (by omega)
  have l2 := wtxt_len ho (by omega)
  have l3 := wtxt_len hb (by omega)
  unfold ltx
  simp only [Str.length_append, sp_len]
  omega
theorem aw_di (k : Int) {n : Int} (hn : 0 < n) : aw (Rat.divInt k n) = Rat.divInt (if k % n * 2 ≤ n then k % n else n - k % n) n := by
  unfold aw
  rw [mom_divInt _ hn]
  have e : (1 : Rat) - Rat.divInt (k % n) n = Rat.divInt (n - k % n) n := by rw [← di_self hn, di_sub]
  rw [e]
  have z : (Rat.divInt (n - k % n) n < Rat.divInt (k % n) n) ↔ ¬ k % n * 2 ≤ n := by
    rw [← Rat.not_le, di_le hn]; omega
  by_cases h : k % n * 2 ≤ n
  · rw [if_pos h, if_neg (fun t => z.mp t h)]
  · rw [if_neg h, if_pos (z.mpr h)]
/-- a row of a law: a light in parts of the cycle -/
structure Row where
  nm : Str
  s : Int
  o : Int
  b : Int
def rowD (r : Row) : D := .tup [.str r.nm, .int r.s, .int r.o, .int r.b]
structure RowOk (P : Int) (r : Row) : Prop where
  nm : Good r.nm
  s0 : 0 < r.s
  s1 : r.s < P
  o0 : 0 ≤ r.o
  o1 : r.o ≤ 3 * P
  b0 : 0 ≤ r.b
  b1 : r.b ≤ 3 * P
theorem sz20 {P a : Int} (hP : 0 < P) (hP2 : P < 1000) (h1 : -100000 ≤ a) (h2 : a ≤ 100000) : Sz 20 (Rat.divInt a P) := Sz.di (Bi.lt (by omega) (by omega)) (Bi.lt (by omega) (by omega)) (by omega)
theorem q_nn {P a : Int} (hP : 0 < P) (h : 0 ≤ a) : 0 ≤ Rat.divInt a P := by rw [← di_zero P]; exact (di_le hP).mpr h
theorem q_pos {P a : Int} (hP : 0 < P) (h : 0 < a) : 0 < Rat.divInt a P := by rw [← di_zero P, ← Rat.not_le, di_le hP]; omega
theorem q_lt1 {P a : Int} (hP : 0 < P) (h : a < P) : Rat.divInt a P < 1 := by rw [← di_self hP, ← Rat.not_le, di_le hP]; omega
/-! ### streets and settings -/
structure Lt where
  x : Str
  s : Rat
  o : Rat
  b : Rat
  deriving DecidableEq
structure LtOk (k : Nat) (l : Lt) : Prop where
  nm : Good l.x
  zs : Sz k l.s
  zo : Sz k l.o
  zb : Sz k l.b
  s0 : 0 < l.s
  s1 : l.s < 1
  o0 : 0 ≤ l.o
  b0 : 0 ≤ l.b
def rowL (P : Int) (r : Row) : Lt := ⟨r.nm, Rat.divInt r.s P, Rat.divInt r.o P, Rat.divInt r.b P⟩
theorem rowL_ok {P : Int} (hP : 0 < P) (hP2 : P < 1000) {r : Row} (h : RowOk P r) : LtOk 20 (rowL P r) := by
  obtain ⟨hn, s0, s1, o0, o1, b0, b1⟩ := h
  exact ⟨hn, sz20 hP hP2 (by omega) (by omega), sz20 hP hP2 (by omega) (by omega), sz20 hP hP2 (by omega) (by omega), q_pos hP s0, q_lt1 hP s1, q_nn hP o0, q_nn hP b0⟩
theorem inV_str (x : Str) : ∀ xs : List Str, inV (.str x) (xs.map V.str) = decide (x ∈ xs)
  | [] => by simp [inV]
  | y :: xs => by
    have ih := inV_str x xs
    unfold inV at ih ⊢
    rw [List.map_cons, List.any_cons, ih]
    by_cases h : x = y
    · subst h; simp [eqV]
    · have h' : ¬ y = x := fun e => h e.symm
      simp [eqV, h, h']
theorem toVs_strs : ∀ xs : List Str, toVs (xs.map D.str) = some (xs.map V.str)
  | [] => rfl
  | x :: xs => by simp [toVs, toV, toVs_strs xs]
theorem gIn_strs (x : Str) (xs : List Str) (m : Mu) : gIn (.str x) (.lst (xs.map .str)) m = .ok (.bl (decide (x ∈ xs))) m := by
  have e : gInQ false (.str x) (.lst (xs.map .str)) m = .ok (.bl (decide (x ∈ xs))) m := by
    unfold gInQ
    simp only [toV, seqA_lst, Option.bind_some, toVs_strs, inV_str, Bool.false_xor]
  show orD (gInS false) (gInQ false) _ _ m = _
  unfold orD
  rw [show gInS false (.str x) (.lst (xs.map .str)) m = .stuck from rfl]
  exact e
theorem cutD_take (xs : List D) (k : Nat) : cutD xs none (some (k : Int)) = xs.take k := by
  unfold cutD
  rw [HT.sIx_none, HT.sIx_nat]
  simp only [List.drop_zero, Nat.sub_zero]
  by_cases h : k ≤ xs.length
  · rw [Nat.min_eq_left h]
  · rw [Nat.min_eq_right (by omega), List.take_of_length_le (Nat.le_refl _), List.take_of_length_le (by omega)]
theorem rats_below (c : Cs) (n : Nat) : ∀ ls : List Rat, belows n (ls.map (rat c)) = true
  | [] => rfl
  | l :: ls => by
    have : below n (rat c l) = true := rfl
    simp [belows, this, rats_below c n ls]
theorem toBs_all {α : Type} (f : α → Bool) : ∀ xs : List α, toBs (xs.map fun x => .bl (f x)) = some (xs.map f)
  | [] => rfl
  | x :: xs => by simp [toBs, toBs_all f xs]
theorem filt_true {α : Type} (xs : List α) : (xs.filter fun _ => true) = xs := by simp
@[simp] theorem kArc_a' (c : Cs) : (c.kArc).a = c.cArc := rfl
/-! ### loops, told by items -/
theorem loop_rel {α : Type} {g : DG} {b : DS} {F : α → D} (I : List α → En → Mu → Prop) : ∀ (xs pre : List α) (e : En) (m : Mu), (∀ pre' a post, pre ++ xs = pre' ++ a :: post → ∀ e m, I pre' e m → ∃ e1 e2 m2, g (F a) e = some e1 ∧ b e1 m = .nx e2 m2 ∧ I (pre' ++ [a]) e2 m2) → I pre e m →
    ∃ e2 m2, dLoop g b (xs.map F) e m = .nx e2 m2 ∧ I (pre ++ xs) e2 m2
  | [], pre, e, m, _, h => ⟨e, m, rfl, by simpa using h⟩
  | x :: xs, pre, e, m, hs, h => by
    obtain ⟨e1, e2, m2, h1, h2, h3⟩ := hs pre x xs rfl e m h
    obtain ⟨e3, m3, h4, h5⟩ := loop_rel (F := F) I xs (pre ++ [x]) e2 m2 (fun p a q hx e m hi => hs p a q (by rw [← hx]; simp) e m hi) h3
    refine ⟨e3, m3, ?_, by simpa using h5⟩
    rw [List.map_cons, dLoop_step h1 h2]
    exact h4
theorem toIs_map {α : Type} (f : α → Int) : ∀ xs : List α, toIs (xs.map fun x => .int (f x)) = some (xs.map f)
  | [] => rfl
  | x :: xs => by simp [toIs, toIs_map f xs]
theorem exists_min {α : Type} (g : α → Int) : ∀ (l : List α), l ≠ [] → ∃ a ∈ l, ∀ b ∈ l, g a ≤ g b
  | [], h => absurd rfl h
  | [x], _ => ⟨x, by simp, by simp⟩
  | x :: y :: l, _ => by
    obtain ⟨a, ha, hb⟩ := exists_min g (y :: l) (by simp)
    by_cases h : g x ≤ g a
    · refine ⟨x, by simp, fun b hm => ?_⟩
      rcases List.mem_cons.mp hm with e | e
      · subst e; exact Int.le_refl _
      · exact Int.le_trans h (hb b e)
    · refine ⟨a, List.mem_cons_of_mem _ ha, fun b hm => ?_⟩
      rcases List.mem_cons.mp hm with e | e
      · subst e; omega
      · exact hb b e
/-! ### distances on a ring -/
def dst (N a : Int) : Int := if N - a % N < a % N then N - a % N else a % N
theorem dst_nn {N : Int} (h : 0 < N) (a : Int) : 0 ≤ dst N a := by
  unfold dst; have := mod_b (a := a) h; split <;> omega
theorem dst_le {N : Int} (h : 0 < N) {a z k : Int} (e : a = z + k * N) {B : Int} (h1 : -B ≤ z) (h2 : z ≤ B) : dst N a ≤ B := by
  have hm := mod_b (a := z) h
  have e1 : a % N = z % N := by rw [e, Int.add_mul_emod_self_right]
  have e2 := Int.emod_add_mul_ediv z N
  unfold dst
  rw [e1]
  by_cases hz : 0 ≤ z
  · by_cases hzN : z < N
    · rw [Int.emod_eq_of_lt hz hzN]
      split <;> omega
    · split <;> omega
  · by_cases hzN : -N ≤ z
    · have e3 : z % N = z + N ∨ z % N = z := by
        have : (z + N) % N = z % N := by simp
        rw [← this]
        by_cases hh : z + N < N
        · left; exact Int.emod_eq_of_lt (by omega) hh
        · omega
      rcases e3 with e3 | e3 <;> rw [e3] <;> split <;> omega
    · split <;> omega
theorem dst_mul {N f : Int} (h : 0 < N) (hf : 0 < f) (y : Int) : dst (f * N) (f * y) = f * dst N y := by
  unfold dst
  rw [Int.mul_emod_mul_of_pos _ _ hf, ← Int.mul_sub]
  by_cases hh : N - y % N < y % N
  · rw [if_pos hh, if_pos (Int.mul_lt_mul_of_pos_left hh hf)]
  · rw [if_neg hh, if_neg (fun z => hh (Int.lt_of_mul_lt_mul_left z (Int.le_of_lt hf)))]
/-- the way from x to y, signed -/
theorem ar_ex {W : Int} (h : 0 < W) (x y : Int) : ∃ a k : Int, y = x + a + k * W ∧ -W ≤ 2 * a ∧ 2 * a < W ∧ (-dst W (x - y) ≤ a ∧ a ≤ dst W (x - y)) := by
  have hm := mod_b (a := x - y) h
  have e := Int.emod_add_mul_ediv (x - y) W
  have ec : W * ((x - y) / W) = (x - y) / W * W := Int.mul_comm _ _
  unfold dst
  by_cases hh : W - (x - y) % W < (x - y) % W
  · refine ⟨W - (x - y) % W, -((x - y) / W) - 1, ?_, by omega, by omega, ?_⟩
    · rw [Int.sub_mul, Int.neg_mul]; omega
    · rw [if_pos hh]; omega
  · refine ⟨-((x - y) % W), -((x - y) / W), ?_, by omega, by omega, ?_⟩
    · rw [Int.neg_mul]; omega
    · rw [if_neg hh]; omega
/-! ### tents -/
abbrev Tent := Int × Int
def tnD (t : Tent) : D := .tup [.int t.1, .int t.2]
def hAt (N : Int) (t : Tent) (x : Int) : Int := t.1 - dst N (x - t.2)
def lowH (N : Int) (ts : List Tent) (x : Int) : Int := minI (ts.map fun t => hAt N t x)
theorem lowH_le {N : Int} {ts : List Tent} (h : ts ≠ []) (x : Int) : ∀ t ∈ ts, lowH N ts x ≤ hAt N t x := fun t ht =>
  (minI_ok (ns := ts.map fun t => hAt N t x) (by simpa using List.length_pos_iff.mpr h)).2 _ (List.mem_map.mpr ⟨t, ht, rfl⟩)
theorem lowH_ex {N : Int} {ts : List Tent} (h : ts ≠ []) (x : Int) : ∃ t ∈ ts, lowH N ts x = hAt N t x := by
  obtain ⟨t, ht, e⟩ := List.mem_map.mp (minI_ok (ns := ts.map fun t => hAt N t x) (by simpa using List.length_pos_iff.mpr h)).1
  exact ⟨t, ht, e.symm⟩
def cross1 (N : Int) (a b : Tent) : Int := (a.2 + (a.1 - b.1 + (b.2 - a.2) % N).fdiv 2) % N
def crs (N : Int) (ts : List Tent) : List Int := ts.map (·.2) ++ ts.flatMap fun a => ts.map fun b => cross1 N a b
theorem even_mod {a N : Int} (ha : a % 2 = 0) (hN : N % 2 = 0) : a % N % 2 = 0 := by
  have e := Int.emod_add_mul_ediv a N
  have : (N * (a / N)) % 2 = 0 := by rw [Int.mul_emod, hN]; simp
  omega
theorem tents_top {N : Int} (hN : 0 < N) (hE : N % 2 = 0) {ts : List Tent} (h0 : ts ≠ []) (h2 : ∀ t ∈ ts, t.1 % 2 = 0 ∧ t.2 % 2 = 0) {f : Int} (hf : 0 < f) {x M : Int} (hx : ∀ t ∈ ts, M ≤ f * t.1 - dst (f * N) (x - f * t.2)) :
    ∃ s ∈ crs N ts, ∀ t ∈ ts, M ≤ f * hAt N t s := by
  have hW : 0 < f * N := Int.mul_pos hf hN
  have hA : ∀ t : Tent, ∃ a k : Int, f * t.2 = x + a + k * (f * N) ∧ -(f * N) ≤ 2 * a ∧ 2 * a < f * N ∧ (-dst (f * N) (x - f * t.2) ≤ a ∧ a ≤ dst (f * N) (x - f * t.2)) := fun t => ar_ex hW x (f * t.2)
  obtain ⟨A, hA⟩ := Classical.axiomOfChoice hA
  obtain ⟨ti, hi, mi⟩ := exists_min (fun t : Tent => A t + (f * t.1 - M)) ts h0
  obtain ⟨tj, hj, mj⟩ := exists_min (fun t : Tent => (f * t.1 - M) - A t) ts h0
  obtain ⟨ki, ei, bi1, bi2, ri1, ri2⟩ := hA ti
  obtain ⟨kj, ej, bj1, bj2, rj1, rj2⟩ := hA tj
  have xi := hx ti hi
  have xj := hx tj hj
  have q1 := mi tj hj
  have q2 := mj ti hi
  have d0 : 0 ≤ A tj - A ti := by omega
  have d1 : A tj - A ti < f * N := by omega
  have ew : f * ((tj.2 - ti.2) % N) = A tj - A ti := by
    rw [← Int.mul_emod_mul_of_pos _ _ hf, Int.mul_sub, ei, ej]
    have : x + A tj + kj * (f * N) - (x + A ti + ki * (f * N)) = (A tj - A ti) + (kj - ki) * (f * N) := by rw [Int.sub_mul]; omega
    rw [this, Int.add_mul_emod_self_right, Int.emod_eq_of_lt d0 d1]
  obtain ⟨w, hw⟩ : ∃ w, (tj.2 - ti.2) % N = w := ⟨_, rfl⟩
  have wE : w % 2 = 0 := by rw [← hw]; exact even_mod (by have := h2 ti hi; have := h2 tj hj; omega) hE
  obtain ⟨q, hq⟩ : ∃ q, ti.1 - tj.1 + w = 2 * q := ⟨(ti.1 - tj.1 + w) / 2, by have := h2 ti hi; have := h2 tj hj; omega⟩
  have eq1 : (ti.1 - tj.1 + w).fdiv 2 = q := by rw [hq, Int.fdiv_eq_ediv_of_nonneg _ (by omega)]; omega
  refine ⟨cross1 N ti tj, ?_, fun t ht => ?_⟩
  · unfold crs
    exact List.mem_append_right _ (List.mem_flatMap.mpr ⟨ti, hi, List.mem_map.mpr ⟨tj, hj, rfl⟩⟩)
  · obtain ⟨kt, et, bt1, bt2, rt1, rt2⟩ := hA t
    have xt := hx t ht
    have q3 := mi t ht
    have q4 := mj t ht
    rw [hw] at ew
    have hfq : 2 * (f * q) = f * ti.1 - f * tj.1 + f * w := by
      rw [← Int.mul_sub, ← Int.mul_add, hq, ← Int.mul_assoc, ← Int.mul_assoc, Int.mul_comm 2 f]
    unfold hAt
    have hs : cross1 N ti tj = (ti.2 + q) % N := by unfold cross1; rw [hw, eq1]
    rw [hs]
    have eN := Int.emod_add_mul_ediv (ti.2 + q) N
    obtain ⟨p, hp⟩ : ∃ p, (ti.2 + q) / N = p := ⟨_, rfl⟩
    rw [hp] at eN
    have fe : f * ((ti.2 + q) % N) = f * ti.2 + f * q - p * (f * N) := by
      have : (ti.2 + q) % N = ti.2 + q - N * p := by omega
      rw [this, Int.mul_sub, Int.mul_add]
      have : f * (N * p) = p * (f * N) := by rw [← Int.mul_assoc, Int.mul_comm]
      omega
    have key : f * dst N ((ti.2 + q) % N - t.2) ≤ f * t.1 - M := by
      rw [← dst_mul hN hf]
      refine dst_le hW (z := A ti + f * q - A t) (k := ki - kt - p) ?_ (by omega) (by omega)
      rw [Int.mul_sub, fe, ei, et, Int.sub_mul, Int.sub_mul]
      omega
    rw [Int.mul_sub]
    omega
/-! ### the functions of tents -/
theorem gMinL_ints {xs : List Int} (h : xs ≠ []) (m : Mu) : gMinL [.lst (xs.map .int)] m = .ok (.int (minI xs)) m := by
  cases xs with
  | nil => exact absurd rfl h
  | cons x xs => simp [gMinL, toIs, show toIs (xs.map D.int) = some xs from by simpa using toIs_map (fun x => x) xs]
theorem sum_const {α : Type} (k : Nat) : ∀ xs : List α, (xs.map fun _ => k).sum = xs.length * k
  | [] => by simp
  | x :: xs => by simp [sum_const k xs, Nat.succ_mul]; omega
theorem crs_ne {N : Int} {ts : List Tent} (h : ts ≠ []) : crs N ts ≠ [] := by
  cases ts with
  | nil => exact absurd rfl h
  | cons t ts => simp [crs]
/-! ### the grid -/
def cbot (qs : List Rat) : Nat := qs.foldl (fun a q => Nat.lcm a q.den) 1
theorem cbot_dvd_of {B : Nat} : ∀ (qs : List Rat) (a : Nat), a ∣ B → (∀ q ∈ qs, q.den ∣ B) → qs.foldl (fun a q => Nat.lcm a q.den) a ∣ B
  | [], _, h, _ => h
  | q :: qs, a, h, hq => cbot_dvd_of qs _ (Nat.lcm_dvd h (hq q (by simp))) fun x hx => hq x (by simp [hx])
theorem dvd_foldl : ∀ (qs : List Rat) (a : Nat), a ∣ qs.foldl (fun a q => Nat.lcm a q.den) a
  | [], a => Nat.dvd_refl a
  | q :: qs, a => Nat.dvd_trans (Nat.dvd_lcm_left a q.den) (dvd_foldl qs _)
theorem den_dvd_foldl : ∀ (qs : List Rat) (a : Nat), ∀ q ∈ qs, q.den ∣ qs.foldl (fun a q => Nat.lcm a q.den) a
  | p :: qs, a, q, h => by
    rcases List.mem_cons.mp h with e | e
    · subst e; exact Nat.dvd_trans (Nat.dvd_lcm_right a q.den) (dvd_foldl qs _)
    · exact den_dvd_foldl qs _ q e
theorem den_dvd_cbot (qs : List Rat) : ∀ q ∈ qs, q.den ∣ cbot qs := den_dvd_foldl qs 1
theorem cbot_dvd {B : Nat} {qs : List Rat} (h : ∀ q ∈ qs, q.den ∣ B) : cbot qs ∣ B := cbot_dvd_of qs 1 (Nat.one_dvd B) h
theorem cbot_pos (qs : List Rat) : 0 < cbot qs := by
  have h : ∀ (qs : List Rat) (a : Nat), 0 < a → 0 < qs.foldl (fun a q => Nat.lcm a q.den) a := fun qs => by
    induction qs with
    | nil => intro a h; exact h
    | cons q qs ih => intro a h; exact ih _ (Nat.lcm_pos h q.den_pos)
  exact h qs 1 (by decide)
def unt (q : Rat) (N : Int) : Int := (q.num * N).fdiv q.den
def prD (c : Cs) (p : Rat × Rat) : D := .tup [rat c p.1, rat c p.2]
def prs (ps : List (Rat × Rat)) : List Rat := ps.flatMap fun p => [p.1, p.2]
theorem prs_len : ∀ ps : List (Rat × Rat), (prs ps).length = 2 * ps.length
  | [] => rfl
  | p :: ps => by
    have := prs_len ps
    simp only [prs, List.flatMap_cons, List.length_append, List.length_cons, List.length_nil] at this ⊢
    omega
theorem lc2_pairs (c : Cs) (m0 : Mu) (x y : Option D) : ∀ (ps : List (Rat × Rat)) (acc : List D), acc.length + 2 * ps.length < 16777216 →
    dLc2 m0.length (dName 3) dYes (dItT (dVar 3)) (dName 4) dYes (dVar 4) [4] [x, y, none, none, none, none, none] (ps.map (prD c)) (m0 ++ [.lst acc]) = .ok () (m0 ++ [.lst (acc ++ (prs ps).map (rat c))])
  | [], acc, _ => by simp [dLc2, prs]
  | p :: ps, acc, h => by
    have hz : sizeLine = 16777216 := rfl
    have h1 : acc.length < 16777216 := by simp at h; omega
    have h2 : acc.length + 1 < 16777216 := by simp at h; omega
    have ih := lc2_pairs c m0 x y ps (acc ++ [rat c p.1, rat c p.2]) (by simp at h ⊢; omega)
    rw [List.map_cons, dLc2.eq_def]
    simp [prD, dLc1, hz, h1, h2, ih, prs]
def gridT (N : Int) (ps : List (Rat × Rat)) : List Tent := ps.map fun p => (unt p.1 N, (-unt p.2 N) % N)
theorem tnDs_below (n : Nat) : ∀ ts : List Tent, belows n (ts.map tnD) = true
  | [] => rfl
  | t :: ts => by simp [belows, below, tnD, tnDs_below n ts]
/-! ### the reach of a street of whole numbers of parts -/
theorem divInt_mul_den {q : Rat} {S P : Int} (hP : P ≠ 0) (e : q = Rat.divInt S P) : q.num * P = S * q.den := by
  have h : Rat.divInt q.num q.den = Rat.divInt S P := by rw [Rat.num_divInt_den]; exact e
  exact (Rat.divInt_eq_divInt_iff (dne q) hP).mp h
theorem unt_scale {q : Rat} {S P f : Int} {M : Nat} (hf : 0 < f) (hM : 0 < M) (hP : P = f * M) (e : q = Rat.divInt S P) (hd : q.den ∣ M) : f * unt q (2 * M) = 2 * S ∧ unt q (2 * M) % 2 = 0 := by
  obtain ⟨t, rfl⟩ := hd
  have hP0 : P ≠ 0 := by rw [hP]; exact Int.mul_ne_zero (by omega) (by omega)
  have h := divInt_mul_den hP0 e
  have hden := dpos q
  have e1 : unt q (2 * ((q.den * t : Nat) : Int)) = q.num * t * 2 := by
    unfold unt
    have : q.num * (2 * ((q.den * t : Nat) : Int)) = (q.num * t * 2) * q.den := by rw [Int.natCast_mul]; grind
    rw [this, Int.fdiv_eq_ediv_of_nonneg _ (by omega), Int.mul_ediv_cancel _ (by omega)]
  rw [e1]
  refine ⟨?_, by omega⟩
  have h2 : q.num * (f * t) = S := by
    have : q.num * (f * t) * q.den = S * q.den := by rw [← h, hP, Int.natCast_mul]; grind
    exact Int.eq_of_mul_eq_mul_right (by omega) this
  rw [← h2]; grind
theorem den_dvd {q : Rat} {S : Int} {P : Nat} (hP : 0 < P) (e : q = Rat.divInt S P) : q.den ∣ P := by
  have h := divInt_mul_den (P := P) (by omega) e
  have h2 : (q.den : Int) ∣ q.num * P := ⟨S, by rw [h, Int.mul_comm]⟩
  have h3 : q.den ∣ q.num.natAbs * P := by
    have := Int.natAbs_dvd_natAbs.mpr h2
    rwa [Int.natAbs_mul, Int.natAbs_natCast, Int.natAbs_natCast] at this
  exact (Nat.Coprime.dvd_of_dvd_mul_left (Nat.Coprime.symm q.reduced) h3)
/-- the tents' top upon a ring of 2 P -/
structure Tops (S T : Lt → Int) (P : Int) (ls : List Lt) (R : Int) : Prop where
  le : ∀ x M : Int, (∀ l ∈ ls, M ≤ 2 * S l - dst (2 * P) (x + 2 * T l)) → M ≤ R
  at_ : ∃ x : Int, ∀ l ∈ ls, R ≤ 2 * S l - dst (2 * P) (x + 2 * T l)
theorem dst_half {N : Int} (h : 0 < N) (a : Int) : 2 * dst N a ≤ N := by
  unfold dst; have := mod_b (a := a) h; split <;> omega
theorem dst_mod {N : Int} (a b : Int) (h : a % N = b % N) : dst N a = dst N b := by unfold dst; rw [h]
theorem tents_of {S T : Lt → Int} {P : Nat} (hP : 0 < P) {ls : List Lt} (hne : ls ≠ []) (hS : ∀ l ∈ ls, l.s = Rat.divInt (S l) P) (hT : ∀ l ∈ ls, l.o + l.b = Rat.divInt (T l) P) {M : Nat} (hM : M = cbot (prs (ls.map fun l => (l.s, l.o + l.b)))) {s : Int}
    (hs : s ∈ crs (2 * M) (gridT (2 * M) (ls.map fun l => (l.s, l.o + l.b)))) (hq : ∀ y ∈ crs (2 * M) (gridT (2 * M) (ls.map fun l => (l.s, l.o + l.b))), lowH (2 * M) (gridT (2 * M) (ls.map fun l => (l.s, l.o + l.b))) y ≤ lowH (2 * M) (gridT (2 * M) (ls.map fun l => (l.s, l.o + l.b))) s) :
    ∃ R f : Int, 0 < f ∧ (P : Int) = f * M ∧ R = f * lowH (2 * M) (gridT (2 * M) (ls.map fun l => (l.s, l.o + l.b))) s ∧ Tops S T P ls R := by
  have hdv : ∀ q ∈ prs (ls.map fun l => (l.s, l.o + l.b)), q.den ∣ P := fun q hq => by
    unfold prs at hq
    rw [List.mem_flatMap] at hq
    obtain ⟨p, hp, hq⟩ := hq
    obtain ⟨l, hl, rfl⟩ := List.mem_map.mp hp
    simp at hq
    rcases hq with rfl | rfl
    · exact den_dvd hP (hS l hl)
    · exact den_dvd hP (hT l hl)
  have hMP : M ∣ P := by rw [hM]; exact cbot_dvd hdv
  have hM0 : 0 < M := by rw [hM]; exact cbot_pos _
  obtain ⟨f0, hf0⟩ := hMP
  have hf : 0 < (f0 : Int) := by
    have : 0 < f0 := Nat.pos_of_ne_zero fun z => by subst z; simp at hf0; omega
    omega
  obtain ⟨f, hff⟩ : ∃ f : Int, (f0 : Int) = f := ⟨_, rfl⟩
  have hPf : (P : Int) = f * M := by rw [hf0, Int.natCast_mul, hff, Int.mul_comm]
  rw [hff] at hf
  clear hff hf0 f0
  have hmem : ∀ l ∈ ls, l.s.den ∣ M ∧ (l.o + l.b).den ∣ M := fun l hl => by
    have h1 : l.s ∈ prs (ls.map fun l => (l.s, l.o + l.b)) := by unfold prs; rw [List.mem_flatMap]; exact ⟨(l.s, l.o + l.b), List.mem_map.mpr ⟨l, hl, rfl⟩, by simp⟩
    have h2 : l.o + l.b ∈ prs (ls.map fun l => (l.s, l.o + l.b)) := by unfold prs; rw [List.mem_flatMap]; exact ⟨(l.s, l.o + l.b), List.mem_map.mpr ⟨l, hl, rfl⟩, by simp⟩
    rw [hM]
    exact ⟨den_dvd_cbot _ _ h1, den_dvd_cbot _ _ h2⟩
  obtain ⟨ts, hts⟩ : ∃ ts, gridT (2 * M) (ls.map fun l => (l.s, l.o + l.b)) = ts := ⟨_, rfl⟩
  rw [hts] at hs hq ⊢
  have htm : ∀ t, t ∈ ts ↔ ∃ l ∈ ls, t = (unt l.s (2 * M), (-unt (l.o + l.b) (2 * M)) % (2 * M)) := fun t => by
    rw [← hts]; unfold gridT; rw [List.mem_map]
    constructor
    · rintro ⟨p, hp, rfl⟩
      obtain ⟨l, hl, rfl⟩ := List.mem_map.mp hp
      exact ⟨l, hl, rfl⟩
    · rintro ⟨l, hl, rfl⟩
      exact ⟨_, List.mem_map.mpr ⟨l, hl, rfl⟩, rfl⟩
  have htn : ts ≠ [] := by
    obtain ⟨l, hl⟩ := List.exists_mem_of_ne_nil _ hne
    exact List.ne_nil_of_mem ((htm _).mpr ⟨l, hl, rfl⟩)
  have hN : (0 : Int) < 2 * M := by omega
  have sc : ∀ l ∈ ls, f * unt l.s (2 * M) = 2 * S l ∧ unt l.s (2 * M) % 2 = 0 ∧ f * unt (l.o + l.b) (2 * M) = 2 * T l ∧ unt (l.o + l.b) (2 * M) % 2 = 0 := fun l hl => by
    obtain ⟨h1, h2⟩ := unt_scale hf hM0 hPf (hS l hl) (hmem l hl).1
    obtain ⟨h3, h4⟩ := unt_scale hf hM0 hPf (hT l hl) (hmem l hl).2
    exact ⟨h1, h2, h3, h4⟩
  have W2 : f * (2 * (M : Int)) = 2 * P := by rw [hPf]; grind
  have hW : (0 : Int) < 2 * P := by omega
  -- the ring's points
  have hd : ∀ l ∈ ls, ∀ x : Int, dst (2 * P) (x - f * ((-unt (l.o + l.b) (2 * M)) % (2 * M))) = dst (2 * P) (x + 2 * T l) := fun l hl x => by
    apply dst_mod
    rw [← Int.mul_emod_mul_of_pos _ _ hf, W2, Int.mul_neg, (sc l hl).2.2.1]
    have e := Int.emod_add_mul_ediv (-(2 * T l)) (2 * P)
    obtain ⟨p, hp⟩ : ∃ p, -(2 * T l) / (2 * (P : Int)) = p := ⟨_, rfl⟩
    rw [hp] at e
    have : x - -(2 * T l) % (2 * (P : Int)) = (x + 2 * T l) + (2 * P) * p := by omega
    rw [this, Int.add_mul_emod_self_left]
  refine ⟨_, f, hf, hPf, rfl, ?_, ?_⟩
  · intro x Mx hx
    obtain ⟨y, hy, hy2⟩ := tents_top (N := 2 * M) hN (by omega) htn (fun t ht => by
      obtain ⟨l, hl, rfl⟩ := (htm t).mp ht
      exact ⟨(sc l hl).2.1, even_mod (by have := (sc l hl).2.2.2; omega) (by omega)⟩) hf (x := x) (M := Mx) (fun t ht => by
      obtain ⟨l, hl, rfl⟩ := (htm t).mp ht
      have := hx l hl
      rw [W2, (sc l hl).1, hd l hl]
      exact this)
    obtain ⟨t, ht, e⟩ := lowH_ex (N := 2 * M) htn y
    have h1 := hy2 t ht
    rw [← e] at h1
    have h2 := Int.mul_le_mul_of_nonneg_left (hq y hy) (Int.le_of_lt hf)
    omega
  · refine ⟨f * s, fun l hl => ?_⟩
    have h1 := lowH_le (N := 2 * M) htn s _ ((htm _).mpr ⟨l, hl, rfl⟩)
    have h2 := Int.mul_le_mul_of_nonneg_left h1 (Int.le_of_lt hf)
    unfold hAt at h2
    rw [Int.mul_sub, ← dst_mul hN hf, W2, Int.mul_sub, (sc l hl).1, hd l hl] at h2
    exact h2
theorem Tops.bd {S T : Lt → Int} {P : Nat} (hP : 0 < P) {ls : List Lt} {R : Int} (h : Tops S T P ls R) (h0 : ∀ l ∈ ls, 0 ≤ S l) : -(P : Int) ≤ R ∧ ∀ l ∈ ls, R ≤ 2 * S l := by
  refine ⟨h.le 0 _ fun l hl => ?_, fun l hl => ?_⟩
  · have := dst_half (N := 2 * P) (by omega) (0 + 2 * T l)
    have := h0 l hl
    omega
  · obtain ⟨x, hx⟩ := h.at_
    have := dst_nn (N := 2 * P) (by omega) (x + 2 * T l)
    have := hx l hl
    omega
@[simp] theorem ix_row0 (r : Row) (m : Mu) : gIx (rowD r) (.int 0) m = .ok (.str r.nm) m := rfl
@[simp] theorem ix_row1 (r : Row) (m : Mu) : gIx (rowD r) (.int 1) m = .ok (.int r.s) m := rfl
@[simp] theorem ix_row2 (r : Row) (m : Mu) : gIx (rowD r) (.int 2) m = .ok (.int r.o) m := rfl
@[simp] theorem ix_row3 (r : Row) (m : Mu) : gIx (rowD r) (.int 3) m = .ok (.int r.b) m := rfl
/-- a loop that ends at the first item that answers -/
theorem loop_find {α : Type} {g : DG} {b : DS} {F : α → D} {m : Mu} (p : α → Bool) (v : D) (I : En → Prop) : ∀ (xs : List α) (e : En), (∀ a ∈ xs, ∀ e, I e → ∃ e1, g (F a) e = some e1 ∧ (p a = true → b e1 m = .rt v m) ∧ (p a = false → ∃ e2, b e1 m = .nx e2 m ∧ I e2)) → I e →
    (xs.any p = true ∧ dLoop g b (xs.map F) e m = .rt v m) ∨ (xs.any p = false ∧ ∃ e2, dLoop g b (xs.map F) e m = .nx e2 m ∧ I e2)
  | [], e, _, h => .inr ⟨rfl, e, rfl, h⟩
  | x :: xs, e, hs, h => by
    obtain ⟨e1, h1, h2, h3⟩ := hs x (by simp) e h
    cases hp : p x with
    | true =>
      refine .inl ⟨by simp [hp], ?_⟩
      rw [List.map_cons, dLoop.eq_def]
      simp only [h1, h2 hp]
    | false =>
      obtain ⟨e2, k1, k2⟩ := h3 hp
      rcases loop_find p v I xs e2 (fun a ha => hs a (by simp [ha])) k2 with ⟨z1, z2⟩ | ⟨z1, z2⟩
      · exact .inl ⟨by simp [hp, z1], by rw [List.map_cons, dLoop_step h1 k1]; exact z2⟩
      · exact .inr ⟨by simp [hp, z1], by rw [List.map_cons, dLoop_step h1 k1]; exact z2⟩
theorem rngD_map (n : Nat) : rngD 0 n = (List.range n).map fun k : Nat => D.int k := by simp [rngD]
theorem dst_neg {W : Int} (h : 0 < W) (y : Int) : dst W (-y) = dst W y := by
  have m := mod_b (a := y) h
  have e := Int.emod_add_mul_ediv y W
  unfold dst
  by_cases hz : y % W = 0
  · have : (-y) % W = 0 := by
      rw [show -y = 0 + W * (-(y / W)) from by rw [Int.mul_neg]; omega, Int.add_mul_emod_self_left]; simp
    rw [this, hz]
  · have : (-y) % W = W - y % W := by
      rw [show -y = (W - y % W) + W * (-(y / W) - 1) from by rw [Int.mul_sub, Int.mul_neg]; omega, Int.add_mul_emod_self_left, Int.emod_eq_of_lt (by omega) (by omega)]
    rw [this]
    split <;> split <;> omega
/-- two arcs in a third one -/
theorem two_arcs {W : Int} (hW : 0 < W) {a b u w v : Int} (hu : 0 ≤ u) (hw : 0 ≤ w) (hv : v < W) :
    (∃ s : Int, (0 ≤ s ∧ s < W) ∧ (a - s) % W + 2 * u ≤ v ∧ (b - s) % W + 2 * w ≤ v) ↔ (2 * u ≤ v ∧ 2 * w ≤ v ∧ dst W (a - b + u - w) ≤ v - u - w) := by
  constructor
  · rintro ⟨s, ⟨s0, s1⟩, h1, h2⟩
    have m1 := mod_b (a := a - s) hW
    have m2 := mod_b (a := b - s) hW
    have e1 := Int.emod_add_mul_ediv (a - s) W
    have e2 := Int.emod_add_mul_ediv (b - s) W
    refine ⟨by omega, by omega, ?_⟩
    refine dst_le hW (z := (a - s) % W - (b - s) % W + u - w) (k := (a - s) / W - (b - s) / W) ?_ (by omega) (by omega)
    have c1 : W * ((a - s) / W) = (a - s) / W * W := Int.mul_comm _ _
    have c2 : W * ((b - s) / W) = (b - s) / W * W := Int.mul_comm _ _
    rw [Int.sub_mul]; omega
  · rintro ⟨h1, h2, h3⟩
    obtain ⟨z, k, e, _, _, b1, b2⟩ := ar_ex hW 0 (a - b + u - w)
    have hd : dst W (0 - (a - b + u - w)) = dst W (a - b + u - w) := by rw [Int.zero_sub]; exact dst_neg hW _
    rw [hd] at b1 b2
    -- where the third begins
    have key : ∀ d1 d2 : Int, 0 ≤ d1 → 0 ≤ d2 → d1 + 2 * u ≤ v → d2 + 2 * w ≤ v → d1 + u - d2 - w = z → ∃ s : Int, (0 ≤ s ∧ s < W) ∧ (a - s) % W + 2 * u ≤ v ∧ (b - s) % W + 2 * w ≤ v := fun d1 d2 q1 q2 q3 q4 q5 => by
      have ms := mod_b (a := a - d1) hW
      have es := Int.emod_add_mul_ediv (a - d1) W
      refine ⟨(a - d1) % W, ms, ?_, ?_⟩
      · have : a - (a - d1) % W = d1 + W * ((a - d1) / W) := by omega
        rw [this, Int.add_mul_emod_self_left, Int.emod_eq_of_lt q1 (by omega)]; exact q3
      · have : b - (a - d1) % W = d2 + W * ((a - d1) / W - k) := by
          rw [Int.mul_sub, Int.mul_comm W k]; omega
        rw [this, Int.add_mul_emod_self_left, Int.emod_eq_of_lt q2 (by omega)]; exact q4
    by_cases hz : u - w ≤ z
    · exact key (z - u + w) 0 (by omega) (by omega) (by omega) (by omega) (by omega)
    · exact key 0 (u - w - z) (by omega) (by omega) (by omega) (by omega) (by omega)
theorem dSeq_nx {t u : DS} {e e1 : En} {m m1 : Mu} (h : t e m = .nx e1 m1) : dSeq t u e m = u e1 m1 := by
  unfold dSeq; rw [h]
theorem dst_way {n : Int} (h : 0 < n) (a : Int) : (if a % n * 2 ≤ n then a % n else n - a % n) = dst n a := by
  unfold dst; split <;> split <;> omega
theorem gMaxL_ints {xs : List Int} (h : xs ≠ []) (m : Mu) : gMaxL [.lst (xs.map .int)] m = .ok (.int (maxI xs)) m := by
  cases xs with
  | nil => exact absurd rfl h
  | cons x xs => simp [gMaxL, toIs, show toIs (xs.map D.int) = some xs from by simpa using toIs_map (fun x => x) xs]
/-- the least room of rows at a spot, in halves of parts -/
def lw (P : Int) (rs : List Row) (x : Int) : Int := minI (rs.map fun r => 2 * r.s - dst (2 * P) (x + 2 * (r.o + r.b)))
theorem lw_le {P : Int} {rs : List Row} (h : rs ≠ []) (x : Int) : ∀ r ∈ rs, lw P rs x ≤ 2 * r.s - dst (2 * P) (x + 2 * (r.o + r.b)) := fun r hr =>
  (minI_ok (ns := rs.map fun r => 2 * r.s - dst (2 * P) (x + 2 * (r.o + r.b))) (by simpa using List.length_pos_iff.mpr h)).2 _ (List.mem_map.mpr ⟨r, hr, rfl⟩)
theorem lw_ex {P : Int} {rs : List Row} (h : rs ≠ []) (x : Int) : ∃ r ∈ rs, lw P rs x = 2 * r.s - dst (2 * P) (x + 2 * (r.o + r.b)) := by
  obtain ⟨r, hr, e⟩ := List.mem_map.mp (minI_ok (ns := rs.map fun r => 2 * r.s - dst (2 * P) (x + 2 * (r.o + r.b))) (by simpa using List.length_pos_iff.mpr h)).1
  exact ⟨r, hr, e.symm⟩
theorem reach_same {P R : Int} (hP : 0 < P) {rs : List Row} (h0 : rs ≠ []) (h1 : ∀ x M : Int, (∀ r ∈ rs, M ≤ 2 * r.s - dst (2 * P) (x + 2 * (r.o + r.b))) → M ≤ R) (h2 : ∃ x : Int, ∀ r ∈ rs, R ≤ 2 * r.s - dst (2 * P) (x + 2 * (r.o + r.b))) :
    maxI ((List.range (2 * P).toNat).map fun k : Nat => lw P rs k) = R := by
  obtain ⟨m1, m2⟩ := maxI_ok (ns := (List.range (2 * P).toNat).map fun k : Nat => lw P rs k) (by simp; omega)
  apply Int.le_antisymm
  · obtain ⟨k, hk, e⟩ := List.mem_map.mp m1
    rw [← e]
    exact h1 k _ fun r hr => lw_le h0 k r hr
  · obtain ⟨x, hx⟩ := h2
    have mx := mod_b (a := x) (n := 2 * P) (by omega)
    have := m2 (lw P rs ((x % (2 * P)).toNat : Nat)) (List.mem_map.mpr ⟨(x % (2 * P)).toNat, List.mem_range.mpr (by omega), rfl⟩)
    have e : (((x % (2 * P)).toNat : Nat) : Int) = x % (2 * P) := by omega
    rw [e] at this
    refine Int.le_trans ?_ this
    obtain ⟨r, hr, e2⟩ := lw_ex (P := P) h0 (x % (2 * P))
    rw [e2]
    have := hx r hr
    have ed := Int.emod_add_mul_ediv x (2 * P)
    have : dst (2 * P) (x % (2 * P) + 2 * (r.o + r.b)) = dst (2 * P) (x + 2 * (r.o + r.b)) := by
      apply dst_mod
      rw [show x + 2 * (r.o + r.b) = (x % (2 * P) + 2 * (r.o + r.b)) + (2 * P) * (x / (2 * P)) from by omega, Int.add_mul_emod_self_left]
    omega
/-! ### rows of any trips -/
structure RowG (P : Int) (r : Row) : Prop where
  nm : Good r.nm
  s0 : 0 < r.s
  s1 : r.s < P
  o0 : 0 ≤ r.o
  o1 : r.o ≤ 20000
  b0 : 0 ≤ r.b
  b1 : r.b ≤ 20000
theorem RowOk.g {P : Int} {r : Row} (hP : P ≤ 1000) (h : RowOk P r) : RowG P r := ⟨h.nm, h.s0, h.s1, h.o0, by have := h.o1; omega, h.b0, by have := h.b1; omega⟩
theorem rowLG_ok {P : Int} (hP : 0 < P) (hP2 : P < 1000) {r : Row} (h : RowG P r) : LtOk 20 (rowL P r) := by
  obtain ⟨hn, s0, s1, o0, o1, b0, b1⟩ := h
  exact ⟨hn, sz20 hP (by omega) (by omega) (by omega), sz20 hP (by omega) (by omega) (by omega), sz20 hP (by omega) (by omega) (by omega), q_pos hP s0, q_lt1 hP s1, q_nn hP o0, q_nn hP b0⟩
abbrev rmI (P x : Int) (r : Row) : Int := 2 * r.s - dst (2 * P) (x + 2 * (r.o + r.b))
/-- the top of rows' rooms upon the ring of 2 P -/
structure Top (P : Int) (rs : List Row) (R : Int) : Prop where
  le : ∀ x M : Int, (∀ r ∈ rs, M ≤ rmI P x r) → M ≤ R
  at_ : ∃ x : Int, ∀ r ∈ rs, R ≤ rmI P x r
theorem Top.mono {P : Int} {rs rs' : List Row} {R R' : Int} (h : Top P rs R) (h' : Top P rs' R') (k : ∀ x : Int, ∃ x' : Int, ∀ r' ∈ rs', ∃ r ∈ rs, rmI P x r ≤ rmI P x' r') : R ≤ R' := by
  obtain ⟨x, hx⟩ := h.at_
  obtain ⟨x', hx'⟩ := k x
  refine h'.le x' R fun r' hr' => ?_
  obtain ⟨r, hr, e⟩ := hx' r' hr'
  exact Int.le_trans (hx r hr) e
theorem rmI_mod {P x y : Int} {r r' : Row} {k : Int} (hs : r.s = r'.s) (e : y + 2 * (r'.o + r'.b) = x + 2 * (r.o + r.b) + (2 * P) * k) : rmI P x r = rmI P y r' := by
  show 2 * r.s - dst (2 * P) _ = 2 * r'.s - dst (2 * P) _
  rw [hs, dst_mod (x + 2 * (r.o + r.b)) (y + 2 * (r'.o + r'.b)) (by rw [e, Int.add_mul_emod_self_left])]
/-! ### odd values, errors, tries -/
/-- values that are no ratios -/
def odds : List D := [.non, .bl true, .int 0, .int 1, .int (-3), .str "", .str "A", .str "1/2", .str "a b", .tup [], .lst [], .tup [.int 1, .int 2], .lst [.non], .str "ninesigns", .tup [.str "a"]]
theorem odd_below {d : D} (h : d ∈ odds) (n : Nat) : below n d = true := by
  simp only [odds, List.mem_cons, List.not_mem_nil, or_false] at h
  rcases h with rfl | rfl | rfl | rfl | rfl | rfl | rfl | rfl | rfl | rfl | rfl | rfl | rfl | rfl | rfl <;> rfl
theorem odd_solid {d : D} (h : d ∈ odds) : solid d = true := by
  simp only [odds, List.mem_cons, List.not_mem_nil, or_false] at h
  rcases h with rfl | rfl | rfl | rfl | rfl | rfl | rfl | rfl | rfl | rfl | rfl | rfl | rfl | rfl | rfl <;> rfl
theorem odd_isratio (c : Cs) {d : D} (h : d ∈ odds) (m : Mu) : F_is_ratio c [d] m = .ok (.bl false) m := by
  simp only [odds, List.mem_cons, List.not_mem_nil, or_false] at h
  rcases h with rfl | rfl | rfl | rfl | rfl | rfl | rfl | rfl | rfl | rfl | rfl | rfl | rfl | rfl | rfl <;> simp [F_is_ratio, env0, ans_Ratio__Ratio, Ans.get, tagOf, primNames]
theorem odd_between (c : Cs) {d : D} (h : d ∈ odds) (x y : D) (m : Mu) : F_is_between c [d, x, y] m = .ok (.bl false) m := by
  simp only [odds, List.mem_cons, List.not_mem_nil, or_false] at h
  rcases h with rfl | rfl | rfl | rfl | rfl | rfl | rfl | rfl | rfl | rfl | rfl | rfl | rfl | rfl | rfl <;> simp [F_is_between, env0, ans_Ratio__Ratio, Ans.get, tagOf, primNames]
theorem eqX_ref_tup {rows : List (Kl × DFn × List Tg)} {m : Mu} {n : Nat} {xs : List D} (h : ∀ x ∈ xs, solid x = true ∧ eqX rows m n x x = some true) : eqX rows m (n + 1) (.tup xs) (.tup xs) = some true := by
  rw [eqX_tup]
  have : ∀ ys : List D, (∀ x ∈ ys, solid x = true ∧ eqX rows m n x x = some true) → eqXs (eqI (eqX rows m n)) ys ys = some true := by
    intro ys
    induction ys with
    | nil => intro _; rfl
    | cons y ys ih =>
      intro h
      obtain ⟨h1, h2⟩ := h y (by simp)
      unfold eqXs
      unfold eqI
      rw [if_pos ⟨h1, h1⟩, h2]
      simp only [implies_true, if_true]
      exact ih fun x hx => h x (by simp [hx])
  rw [this xs h]
  simp
theorem eqX_ref_lst {rows : List (Kl × DFn × List Tg)} {m : Mu} {n : Nat} {xs : List D} (h : ∀ x ∈ xs, solid x = true ∧ eqX rows m n x x = some true) : eqX rows m (n + 1) (.lst xs) (.lst xs) = some true := by
  have k := eqX_ref_tup h
  rw [eqX_tup] at k
  rw [eqX_lst, if_pos rfl]
  cases hz : eqXs (eqI (eqX rows m n)) xs xs with
  | none => rw [hz] at k; cases k
  | some b => rw [hz] at k; cases b <;> simp_all
theorem eqX_ref_leaf {rows : List (Kl × DFn × List Tg)} {m : Mu} {n : Nat} {d : D} (h : d = .non ∨ (∃ b, d = .bl b) ∨ (∃ i, d = .int i)) : eqX rows m (n + 1) d d = some true := by
  rw [eqX.eq_def]
  rcases h with rfl | ⟨b, rfl⟩ | ⟨b, rfl⟩ <;>
  · simp only [insOf, seqL, seqT, pyOf, thaw1, toPy]
    rw [if_pos (by rfl)]
    simp [PyData.eqv]
theorem eqX_ref_str {rows : List (Kl × DFn × List Tg)} {m : Mu} {n : Nat} {x : Str} (h : SeqAt.shaped (.str x) = true) : eqX rows m (n + 1) (.str x) (.str x) = some true := by
  rw [eqX.eq_def]
  simp only [insOf, seqL, seqT, pyOf, thaw1, toPy]
  rw [if_pos (by rw [h]; rfl)]
  simp [PyData.eqv]
theorem eqX_odd {rows : List (Kl × DFn × List Tg)} {m : Mu} {n : Nat} {d : D} (h : d ∈ odds) : eqX rows m (n + 2) d d = some true := by
  simp only [odds, List.mem_cons, List.not_mem_nil, or_false] at h
  have hs : ∀ x : Str, solid (.str x) = true := fun _ => rfl
  have hi : ∀ x : Int, solid (.int x) = true := fun _ => rfl
  have hn : solid .non = true := rfl
  rcases h with rfl | rfl | rfl | rfl | rfl | rfl | rfl | rfl | rfl | rfl | rfl | rfl | rfl | rfl | rfl
  · exact eqX_ref_leaf (by simp)
  · exact eqX_ref_leaf (by simp)
  · exact eqX_ref_leaf (by simp)
  · exact eqX_ref_leaf (by simp)
  · exact eqX_ref_leaf (by simp)
  · exact eqX_ref_str (by decide +kernel)
  · exact eqX_ref_str (by decide +kernel)
  · exact eqX_ref_str (by decide +kernel)
  · exact eqX_ref_str (by decide +kernel)
  · exact eqX_ref_tup (by simp)
  · exact eqX_ref_lst (by simp)
  · exact eqX_ref_tup (by simp [hi, eqX_ref_leaf])
  · exact eqX_ref_lst (by simp [hn, eqX_ref_leaf])
  · exact eqX_ref_str (by decide +kernel)
  · exact eqX_ref_tup (by simp only [List.mem_cons, List.not_mem_nil, or_false, forall_eq]; exact ⟨rfl, eqX_ref_str (by decide +kernel)⟩)
theorem gNe_py {m : Mu} {x y : D} {p q : PyData} {b : Bool} (hx : pyOf m x = some p) (hy : pyOf m y = some q) (hs : (SeqAt.shaped p && SeqAt.shaped q) = true) (hc : scEq x y = none) (hb : PyData.eqv p q = b) : gNe x y m = .ok (.bl (!b)) m := by
  unfold gNe orD gEqS
  rw [hc]
  simp only [gEqD, hx, hy]
  rw [if_pos hs, hb, Bool.true_xor]
theorem gEq_py {m : Mu} {x y : D} {p q : PyData} {b : Bool} (hx : pyOf m x = some p) (hy : pyOf m y = some q) (hs : (SeqAt.shaped p && SeqAt.shaped q) = true) (hc : scEq x y = none) (hb : PyData.eqv p q = b) : gEq x y m = .ok (.bl b) m := by
  unfold gEq orD gEqS
  rw [hc]
  simp only [gEqD, hx, hy]
  rw [if_pos hs, hb, Bool.false_xor]
theorem fr_inj {q r : Rat} (h : fr q = fr r) : q = r := by
  simp only [fr, D.tup.injEq, List.cons.injEq, D.int.injEq, and_true] at h
  exact Rat.ext h.1 (by omega)
theorem gEq_fr (q r : Rat) (m : Mu) : gEq (fr q) (fr r) m = .ok (.bl (decide (q = r))) m := by
  have : PyData.eqv (.tuple [.int q.num, .int q.den]) (.tuple [.int r.num, .int r.den]) = decide (q = r) := by
    have h : (q = r) ↔ q.num = r.num ∧ q.den = r.den := ⟨fun e => by rw [e]; exact ⟨rfl, rfl⟩, fun h => Rat.ext h.1 h.2⟩
    by_cases h1 : q.num = r.num
    · by_cases h2 : q.den = r.den
      · simp [PyData.eqv, PyData.eqvAll, h, h1, h2]
      · have h3 : ¬ (q.den : Int) = r.den := by omega
        simp [PyData.eqv, PyData.eqvAll, h, h1, h2, h3]
    · simp [PyData.eqv, PyData.eqvAll, h, h1]
  exact gEq_py rfl rfl rfl rfl this
@[simp] theorem tru_rat (c : Cs) (q : Rat) (m : Mu) : dTru m (rat c q) = none := rfl
/-- more memory behind the old one -/
structure Grew (m m' : Mu) : Prop where
  ex : ∃ t, m' = m ++ t
  cl : Cl m'
theorem Grew.refl {m : Mu} (h : Cl m) : Grew m m := ⟨⟨[], by simp⟩, h⟩
theorem Grew.trans {m m1 m2 : Mu} (h : Grew m m1) (k : Grew m1 m2) : Grew m m2 := by
  obtain ⟨t, rfl⟩ := h.ex
  obtain ⟨u, rfl⟩ := k.ex
  exact ⟨⟨t ++ u, by simp⟩, k.cl⟩
theorem Grew.len {m m' : Mu} (h : Grew m m') : m.length ≤ m'.length := by obtain ⟨t, rfl⟩ := h.ex; simp
theorem Grew.get {m m' : Mu} (h : Grew m m') {n : Nat} {o : Mo} (e : m[n]? = some o) : m'[n]? = some o := by
  obtain ⟨t, rfl⟩ := h.ex
  rw [List.getElem?_append_left]
  · exact e
  · exact (List.getElem?_eq_some_iff.mp e).1
theorem Grew.bag {m m' : Mu} (h : Grew m m') (b : BagOk m) : BagOk m' := by
  obtain ⟨o, ho, hb⟩ := b.ex
  exact ⟨⟨o, h.get ho, hb⟩⟩
theorem Grew.one {m : Mu} {o : Mo} (h : Cl (m ++ [o])) : Grew m (m ++ [o]) := ⟨⟨[o], rfl⟩, h⟩
theorem compL_grew {g : DG} {b : DE} {e : En} {m0 : Mu} : ∀ (ps : List (D × D)) (acc : List D) (m : Mu), Grew m0 m → (∀ p ∈ ps, ∃ e1, g p.1 e = some e1 ∧ ∀ m, Grew m0 m → ∃ m1, b e1 m = .ok p.2 m1 ∧ Grew m m1) → acc.length + ps.length ≤ 10000 →
    ∃ m', dCompL g dYes b e (ps.map (·.1)) m acc = .ok (acc ++ ps.map (·.2)) m' ∧ Grew m m'
  | [], acc, m, hg, _, _ => ⟨m, by simp [dCompL], .refl hg.cl⟩
  | p :: ps, acc, m, hg, h, hl => by
    have hz : sizeLine = 16777216 := rfl
    obtain ⟨e1, h1, h2⟩ := h p (by simp)
    obtain ⟨m1, h3, g1⟩ := h2 m hg
    obtain ⟨m2, h4, g2⟩ := compL_grew ps (acc ++ [p.2]) m1 (hg.trans g1) (fun q hq => h q (by simp [hq])) (by simp at hl ⊢; omega)
    refine ⟨m2, ?_, g1.trans g2⟩
    rw [List.map_cons]
    unfold dCompL
    rw [h1]
    simp only [dYes, h3]
    rw [if_pos (by simp at hl; omega), h4]
    simp
/-- a loop in a maker of lambdas: what stands in memory afterwards is the same wherever the cells stand -/
theorem loop_allG {G : DG} {b : List (Str × Addr) → DS} {M : Mu → Prop} {E : En → Prop} : ∀ (ds : List D) (m : Mu), (∀ d ∈ ds, ∀ m, M m → ∃ m2, M m2 ∧ ∀ g e, E e → ∃ e1 e2, G d e = some e1 ∧ b g e1 m = .nx e2 m2 ∧ E e2) → M m →
    ∃ m2, M m2 ∧ ∀ g e, E e → ∃ e2, dLoop G (b g) ds e m = .nx e2 m2 ∧ E e2
  | [], m, _, hm => ⟨m, hm, fun g e he => ⟨e, rfl, he⟩⟩
  | d :: ds, m, h, hm => by
    obtain ⟨m1, h1, k1⟩ := h d (by simp) m hm
    obtain ⟨m2, h2, k2⟩ := loop_allG ds m1 (fun d' hd => h d' (by simp [hd])) h1
    refine ⟨m2, h2, fun g e he => ?_⟩
    obtain ⟨e1, e2, a1, a2, a3⟩ := k1 g e he
    obtain ⟨e3, b1, b2⟩ := k2 g e2 a3
    exact ⟨e3, by simp only [dLoop, a1, a2]; exact b1, b2⟩
/-! ### streets told by rows -/
theorem sp_sum {j k l : Nat} {x : Str} {s o b : Rat} (hx : x.length ≤ 100) (hs : Sz j s) (ho : Sz k o) (hb : Sz l b) (hk : j + k + l < 1900) : x.length + 1 + (wtxt s).length + 1 + (wtxt o).length + 1 + (wtxt b).length ≤ 16000 := by
  have h1 := wtxt_len hs (by omega)
  have h2 := wtxt_len ho (by omega)
  have h3 := wtxt_len hb (by omega)
  omega
/-! ### widths that can pass, over rows of any trips -/
theorem Top.uniq {P : Int} {rs : List Row} {R R' : Int} (h : Top P rs R) (h' : Top P rs R') : R = R' := by
  obtain ⟨x, hx⟩ := h.at_
  obtain ⟨y, hy⟩ := h'.at_
  exact Int.le_antisymm (h'.le x R hx) (h.le y R' hy)
theorem rat_inj {c : Cs} {q r : Rat} (h : rat c q = rat c r) : q = r := by
  simp only [rat, D.obj.injEq, List.cons.injEq, D.int.injEq, and_true, true_and] at h
  exact Rat.ext h.1 (by omega)
/-- the top itself -/
noncomputable def TopR (P : Int) (rs : List Row) : Int := by
  classical exact if h : ∃ R, Top P rs R then h.choose else 0
theorem TopR_eq {P R : Int} {rs : List Row} (h : Top P rs R) : TopR P rs = R := by
  unfold TopR
  rw [dif_pos ⟨R, h⟩]
  exact Top.uniq (Exists.choose_spec (⟨R, h⟩ : ∃ R, Top P rs R)) h
noncomputable def canB (P : Int) (x y : Int) (rs : List Row) : Bool := decide ((∀ r ∈ rs, x ≤ r.s ∧ y ≤ r.s) ∧ x + y ≤ TopR P rs)
/-! ### a comprehension whose condition is drawn -/
theorem comp_sel {α : Type} {g : DG} {cc : DT} {b : DE} {e : En} {F f : α → D} : ∀ (xs : List α) (acc : List D) (m : Mu), BagOk m →
    (∀ x ∈ xs, ∀ m, BagOk m → ∃ e1 t m', g (F x) e = some e1 ∧ cc e1 m = .ok t m' ∧ (t = true → b e1 m' = .ok (f x) m') ∧ Bgs m m') → acc.length + xs.length ≤ sizeLine →
    ∃ (ys : List α) (m' : Mu), ys.Sublist xs ∧ dCompL g cc b e (xs.map F) m acc = .ok (acc ++ ys.map f) m' ∧ Bgs m m'
  | [], acc, m, hb, _, _ => ⟨[], m, .slnil, by simp, hb.rfl'⟩
  | x :: xs, acc, m, hb, h, hl => by
    obtain ⟨e1, t, m', h1, h2, h3, h5⟩ := h x (by simp) m hb
    cases t with
    | true =>
      obtain ⟨ys, m2, k1, k2, k3⟩ := comp_sel xs (acc ++ [f x]) m' (h5.bag hb) (fun y hy => h y (by simp [hy])) (by simp at hl ⊢; omega)
      refine ⟨x :: ys, m2, k1.cons₂ x, ?_, h5.trans k3⟩
      rw [List.map_cons, dCompL_cons, h1]
      simp only [h2, h3 rfl]
      rw [if_pos (by simp at hl; omega), k2]
      simp
    | false =>
      obtain ⟨ys, m2, k1, k2, k3⟩ := comp_sel xs acc m' (h5.bag hb) (fun y hy => h y (by simp [hy])) (by simp at hl ⊢; omega)
      refine ⟨ys, m2, k1.cons x, ?_, h5.trans k3⟩
      rw [List.map_cons, dCompL_cons, h1]
      simp only [h2]
      rw [k2]
/-! ### parts by marks -/
def segs {α : Type} (rs : List α) : List Nat → List (List α)
  | a :: b :: t => ((rs.drop a).take (b - a)) :: segs rs (b :: t)
  | _ => []
theorem segs_len {α : Type} (rs : List α) : ∀ M : List Nat, (segs rs M).length = M.length - 1
  | [] => rfl
  | [_] => rfl
  | a :: b :: t => by simp [segs, segs_len rs (b :: t)]
theorem segs_flat {α : Type} (rs : List α) : ∀ (M : List Nat) (a n : Nat), (a :: M).Pairwise (· < ·) → (a :: M).getLast? = some n → (segs rs (a :: M)).flatten = (rs.take n).drop a
  | [], a, n, _, h => by
    simp at h; subst h
    simp [segs]
  | b :: t, a, n, hp, h => by
    have hp2 := (List.pairwise_cons.mp hp).2
    have hab := (List.pairwise_cons.mp hp).1 b (by simp)
    have hl : (b :: t).getLast? = some n := by rw [List.getLast?_cons_cons] at h; exact h
    have ih := segs_flat rs t b n hp2 hl
    have hbn : b ≤ n := by
      have hm := List.mem_of_getLast? hl
      rcases List.mem_cons.mp hm with e | e
      · omega
      · have := (List.pairwise_cons.mp hp2).1 n e; omega
    simp only [segs, List.flatten_cons, ih]
    rw [List.drop_take, List.drop_take]
    have : (rs.drop a).take (n - a) = (rs.drop a).take ((b - a) + (n - b)) := by congr 1; omega
    rw [this, List.take_add, List.drop_drop]
    congr 3
    omega
theorem segs_mem {α : Type} (rs : List α) : ∀ (M : List Nat) (p : List α), M.Pairwise (· < ·) → (∀ b ∈ M, b ≤ rs.length) → p ∈ segs rs M → p ≠ [] ∧ p.Sublist rs
  | [], p, _, _, h => by simp [segs] at h
  | [a], p, _, _, h => by simp [segs] at h
  | a :: b :: t, p, hp, hb, h => by
    have hab := (List.pairwise_cons.mp hp).1 b (by simp)
    have hbl := hb b (by simp)
    simp only [segs, List.mem_cons] at h
    rcases h with rfl | h
    · refine ⟨fun z => ?_, (List.take_sublist _ _).trans (List.drop_sublist _ _)⟩
      have := congrArg List.length z
      rw [List.length_take, List.length_drop] at this
      simp at this; omega
    · exact segs_mem rs (b :: t) p (List.pairwise_cons.mp hp).2 (fun x hx => hb x (by simp [hx])) h
theorem segs_map {α : Type} (rs : List α) : ∀ M : List Nat, (List.range (M.length - 1)).map (fun k => (rs.drop (M.getD k 0)).take (M.getD (k + 1) 0 - M.getD k 0)) = segs rs M
  | [] => rfl
  | [_] => rfl
  | a :: b :: t => by
    have ih := segs_map rs (b :: t)
    simp only [List.length_cons, Nat.add_sub_cancel] at ih ⊢
    rw [List.range_succ_eq_map, List.map_cons, List.map_map]
    simp only [segs, ← ih]
    rfl
theorem cutD_seg (xs : List D) {a b : Nat} (ha : a ≤ xs.length) (hb : b ≤ xs.length) : cutD xs (some (a : Int)) (some (b : Int)) = (xs.drop a).take (b - a) := by
  unfold cutD
  rw [HT.sIx_nat, HT.sIx_nat, Nat.min_eq_left ha, Nat.min_eq_left hb]
theorem map_flatten' {α β : Type} (f : α → β) (xs : List (List α)) : (xs.flatten).map f = (xs.map (List.map f)).flatten := by
  induction xs with
  | nil => rfl
  | cons x xs ih => simp
theorem cutD_last (xs : List D) : cutD xs none (some (-1)) = xs.dropLast := by
  unfold cutD
  have e : HT.sIx xs.length xs.length (some (-1)) = xs.length - 1 := by
    show (if (-1 : Int) < 0 then ((-1 : Int) + (xs.length : Int)).toNat else min (-1 : Int).toNat xs.length) = xs.length - 1
    rw [if_pos (by decide)]
    omega
  rw [HT.sIx_none, e, List.drop_zero, Nat.sub_zero, List.dropLast_eq_take]
theorem atI_last {α : Type} (xs : List α) : atI xs (-1) = xs.getLast? := by
  unfold atI ixN
  rw [if_neg (show ¬ (0 : Int) ≤ -1 by decide), List.getLast?_eq_getElem?]
  by_cases h : xs.length = 0
  · rw [if_neg (by omega)]
    rw [List.length_eq_zero_iff] at h
    subst h; rfl
  · rw [if_pos (by omega), Option.bind_some]
    congr 1
    omega
theorem getD_map {α β : Type} (f : α → β) (xs : List α) (k : Nat) (d : α) (h : k < xs.length) : (xs.map f)[k]? = some (f (xs.getD k d)) := by
  rw [List.getElem?_map, List.getD_eq_getElem?_getD]
  simp [h]
theorem sing_flat {α : Type} : ∀ l : List α, (l.map fun r => [r]).flatten = l
  | [] => rfl
  | a :: t => by simp [sing_flat t]
theorem dItR2_of {t : DA} {e : En} {m m1 : Mu} {i j : Int} (h : t e m = .ok [.int i, .int j] m1) (h1 : -(2 ^ 62) ≤ i) (h2 : i < 2 ^ 62) (h3 : -(2 ^ 62) ≤ j) (h4 : j < 2 ^ 62) : dItR2 t e m = .ok (rngD i (j - i).toNat) m1 := by
  unfold dItR2
  rw [h]
  exact if_pos ⟨h1, h2, h3, h4⟩
theorem dItR1_of {t : DA} {e : En} {m m1 : Mu} {j : Int} (h : t e m = .ok [.int j] m1) (h3 : -(2 ^ 62) ≤ j) (h4 : j < 2 ^ 62) : dItR1 t e m = .ok (rngD 0 j.toNat) m1 := by
  unfold dItR1
  rw [h]
  exact if_pos ⟨h3, h4⟩
/-! ### arcs of whole parts, their common parts (the lists frozen) -/
/-- an arc of a whole number of parts -/
def ar (c : Cs) (P : Int) (p : Int × Int) : D := arc c (Rat.divInt p.1 P) (Rat.divInt p.2 P)
def cutI (P a w b v : Int) : List (Int × Int) := if w - (b - a) % P < 0 then [] else [(b, if w - (b - a) % P < v then w - (b - a) % P else v)]
def comI (P a w b v : Int) : List (Int × Int) := if w = P then [if v = P then (0, P) else (b, v)] else if v = P then [(a, w)] else
  if cutI P a w b v = [] ∨ cutI P b v a w = [] ∨ b = a then (if cutI P a w b v = [] then cutI P b v a w else cutI P a w b v) else
  if b < a then cutI P a w b v ++ cutI P b v a w else cutI P b v a w ++ cutI P a w b v
/-- a start and a width of P parts -/
structure Okp (P : Int) (p : Int × Int) : Prop where
  a0 : 0 ≤ p.1
  a1 : p.1 < P
  w0 : 0 ≤ p.2
  w1 : p.2 ≤ P
theorem di_lt {a b P : Int} (hP : 0 < P) : Rat.divInt a P < Rat.divInt b P ↔ a < b := by
  rw [← Rat.not_le, di_le hP]; omega
theorem cut_okp {P a w b v : Int} (h1 : Okp P (a, w)) (h2 : Okp P (b, v)) : ∀ p ∈ cutI P a w b v, Okp P p := by
  obtain ⟨a0, a1, w0, w1⟩ := h1
  obtain ⟨b0, b1, v0, v1⟩ := h2
  simp only at a0 a1 w0 w1 b0 b1 v0 v1
  have := mod_b (a := b - a) (n := P) (by omega)
  intro p hp
  unfold cutI at hp
  split at hp
  · simp at hp
  · simp at hp
    subst hp
    constructor <;> simp only <;> (try split) <;> omega
theorem com_okp {P a w b v : Int} (h1 : Okp P (a, w)) (h2 : Okp P (b, v)) : ∀ p ∈ comI P a w b v, Okp P p := by
  have k1 := cut_okp h1 h2
  have k2 := cut_okp h2 h1
  have := h1.a0; have := h1.a1
  intro p hp
  unfold comI at hp
  split at hp
  · split at hp
    · simp only [List.mem_singleton] at hp; subst hp; exact ⟨by simp, by simp at *; omega, by simp at *; omega, by simp⟩
    · simp only [List.mem_singleton] at hp; subst hp; exact h2
  · split at hp
    · simp only [List.mem_singleton] at hp; subst hp; exact h1
    · split at hp
      · split at hp
        · exact k2 p hp
        · exact k1 p hp
      · split at hp
        · exact (List.mem_append.mp hp).elim (k1 p) (k2 p)
        · exact (List.mem_append.mp hp).elim (k2 p) (k1 p)
theorem sz10 {P a : Int} (hP : 0 < P) (hP2 : P < 1000) (h1 : -1000 ≤ a) (h2 : a ≤ 1000) : Sz 10 (Rat.divInt a P) := Sz.di (Bi.lt (by omega) (by omega)) (Bi.lt (by omega) (by omega)) (by omega)
theorem di_nn {P a : Int} (hP : 0 < P) (h : 0 ≤ a) : 0 ≤ Rat.divInt a P := by rw [← di_zero P]; exact (di_le hP).mpr h
theorem di_1 {P a : Int} (hP : 0 < P) (h : a ≤ P) : Rat.divInt a P ≤ 1 := by rw [← di_self hP]; exact (di_le hP).mpr h
theorem mom_di' {P a : Int} (hP : 0 < P) (h0 : 0 ≤ a) (h1 : a < P) : mom (Rat.divInt a P) = Rat.divInt a P := by rw [mom_divInt _ hP, Int.emod_eq_of_lt h0 h1]
theorem arc_below' (c : Cs) (P : Int) (p : Int × Int) (n : Nat) : below n (ar c P p) = true := rfl
theorem ars_below (c : Cs) (P : Int) (n : Nat) : ∀ ps : List (Int × Int), belows n (ps.map (ar c P)) = true
  | [] => rfl
  | p :: ps => by simp [belows, arc_below', ars_below c P n ps]
theorem cl_lst {m : Mu} (h : Cl m) {ds : List D} (hd : belows 0 ds = true) : Cl (m ++ [.lst ds]) := h.snoc (by
  show belows _ ds = true
  exact belows_mono (Nat.zero_le _) ds hd)
theorem ar_start (c : Cs) (P : Int) (p : Int × Int) (m : Mu) : F_Arc_start c [ar c P p] m = .ok (rat c (Rat.divInt p.1 P)) m := arc_start c _ _ m
@[simp] theorem insOf_ar (m : Mu) (c : Cs) (P : Int) (p : Int × Int) : insOf m (ar c P p) = some (c.cArc, nsArc, [rat c (Rat.divInt p.1 P), rat c (Rat.divInt p.2 P)]) := rfl
@[simp] theorem tag_ar (c : Cs) (P : Int) (p : Int × Int) (m : Mu) : tagOf m (ar c P p) = some (.own c.cArc) := rfl
theorem ar_zero (c : Cs) {P : Int} (hP : 0 < P) : arc c 0 1 = ar c P (0, P) := by unfold ar; rw [di_zero, di_self hP]
theorem cut_ne {P a w b v : Int} {p : Int × Int} {r : List (Int × Int)} (h : cutI P a w b v = p :: r) : p.1 = b ∧ r = [] := by
  unfold cutI at h
  split at h
  · cases h
  · cases h; exact ⟨rfl, rfl⟩
theorem ar_ne (c : Cs) {P : Int} (hP : 0 < P) {p q : Int × Int} (h : ar c P p = ar c P q) : p = q := by
  unfold ar arc rat at h
  injection h with _ h
  injection h with h1 h
  injection h with h2 _
  injection h1 with _ h1
  injection h1 with h3 h1
  injection h1 with h4 _
  injection h2 with _ h2
  injection h2 with h5 h2
  injection h2 with h6 _
  injection h3 with h3; injection h4 with h4; injection h5 with h5; injection h6 with h6
  have e1 : Rat.divInt p.1 P = Rat.divInt q.1 P := Rat.ext h3 (by exact_mod_cast h4)
  have e2 : Rat.divInt p.2 P = Rat.divInt q.2 P := Rat.ext h5 (by exact_mod_cast h6)
  exact Prod.ext ((di_inj hP).mp e1) ((di_inj hP).mp e2)
def inI (P : Int) (k : Int) (p : Int × Int) : Bool := decide ((k - 2 * p.1) % (2 * P) ≤ 2 * p.2)
theorem com_sym {P a w b v : Int} : comI P b v a w = comI P a w b v := by
  unfold comI
  by_cases k1 : w = P
  · by_cases k2 : v = P
    · simp [k1, k2]
    · simp [k1, k2]
  · by_cases k2 : v = P
    · simp [k1, k2]
    · simp only [if_neg k1, if_neg k2]
      by_cases z1 : cutI P a w b v = []
      · by_cases z2 : cutI P b v a w = []
        · simp [z1, z2]
        · simp [z1, z2]
      · by_cases z2 : cutI P b v a w = []
        · simp [z1, z2]
        · by_cases z3 : a = b
          · subst z3
            have : cutI P a v a w = cutI P a w a v := by
              unfold cutI at *
              simp only [Int.sub_self, Int.zero_emod, Int.sub_zero] at *
              split at z1 <;> split at z2 <;> first | (exact absurd rfl z1) | (exact absurd rfl z2) | skip
              split <;> split <;> (try (split)) <;> (try split) <;> simp <;> omega
            simp [z1, z2, this]
          · have z4 : ¬ b = a := fun e => z3 e.symm
            simp only [z1, z2, z3, z4, false_or, if_false]
            by_cases z5 : a < b
            · have z6 : ¬ b < a := by omega
              simp [z5, z6]
            · have z6 : b < a := by omega
              simp [z5, z6]
theorem com_len {P a w b v : Int} : (comI P a w b v).length ≤ 2 := by
  have l : ∀ a w b v, (cutI P a w b v).length ≤ 1 := fun a w b v => by unfold cutI; split <;> simp
  have h1 := l a w b v
  have h2 := l b v a w
  unfold comI
  repeat' split
  all_goals first | (simp; done) | (rw [List.length_append]; omega) | omega
theorem cut_one {P a w b v : Int} (h : cutI P a w b v ≠ []) : ¬ w - (b - a) % P < 0 ∧ cutI P a w b v = [(b, if w - (b - a) % P < v then w - (b - a) % P else v)] := by
  unfold cutI at *
  split at h
  · exact absurd rfl h
  · rename_i z; exact ⟨z, by rw [if_neg z]⟩
theorem com_asc {P a w b v : Int} {p q : Int × Int} (h : comI P a w b v = [p, q]) : p.1 < q.1 := by
  unfold comI at h
  have l : ∀ a w b v, (cutI P a w b v).length ≤ 1 := fun a w b v => by unfold cutI; split <;> simp
  split at h
  · split at h <;> cases h
  · split at h
    · cases h
    · split at h
      · split at h
        · have := l b v a w; rw [h] at this; simp at this
        · have := l a w b v; rw [h] at this; simp at this
      · rename_i z
        have z1 : cutI P a w b v ≠ [] := fun e => z (.inl e)
        have z2 : cutI P b v a w ≠ [] := fun e => z (.inr (.inl e))
        have z3 : ¬ b = a := fun e => z (.inr (.inr e))
        obtain ⟨_, c1⟩ := cut_one z1
        obtain ⟨_, c2⟩ := cut_one z2
        rw [c1, c2] at h
        split at h
        · cases h; simp only; assumption
        · cases h; simp only; omega
theorem mod_rel {P a b k : Int} (hP : 0 < P) : ((k - 2 * a) % (2 * P) ≥ 2 * ((b - a) % P) ∧ (k - 2 * b) % (2 * P) = (k - 2 * a) % (2 * P) - 2 * ((b - a) % P)) ∨
    ((k - 2 * a) % (2 * P) < 2 * ((b - a) % P) ∧ (k - 2 * b) % (2 * P) = (k - 2 * a) % (2 * P) - 2 * ((b - a) % P) + 2 * P) := by
  have x := mod_b (a := k - 2 * a) (n := 2 * P) (by omega)
  have d := mod_b (a := b - a) (n := P) hP
  have q1 := Int.emod_add_mul_ediv (k - 2 * a) (2 * P)
  have q2 := Int.emod_add_mul_ediv (b - a) P
  have e : k - 2 * b = ((k - 2 * a) % (2 * P) - 2 * ((b - a) % P)) + (2 * P) * ((k - 2 * a) / (2 * P) - (b - a) / P) := by
    have : k - 2 * b = (k - 2 * a) - 2 * (b - a) := by omega
    rw [this]
    generalize hX : (k - 2 * a) % (2 * P) = X at *
    generalize hd : (b - a) % P = D at *
    generalize (k - 2 * a) / (2 * P) = s at *
    generalize (b - a) / P = t at *
    rw [← q1, ← q2]
    grind
  rw [e, Int.add_mul_emod_self_left]
  by_cases h : (k - 2 * a) % (2 * P) ≥ 2 * ((b - a) % P)
  · exact .inl ⟨h, Int.emod_eq_of_lt (by omega) (by omega)⟩
  · refine .inr ⟨by omega, ?_⟩
    rw [← Int.add_emod_right, Int.emod_eq_of_lt (by omega) (by omega)]
theorem mod_op {P a b : Int} (hP : 0 < P) : ((b - a) % P = 0 ∧ (a - b) % P = 0) ∨ (0 < (b - a) % P ∧ (a - b) % P = P - (b - a) % P) := by
  have d := mod_b (a := b - a) (n := P) hP
  have q2 := Int.emod_add_mul_ediv (b - a) P
  have e : a - b = - ((b - a) % P) + P * (- ((b - a) / P)) := by
    rw [Int.mul_neg]; omega
  rw [e, Int.add_mul_emod_self_left]
  by_cases h : (b - a) % P = 0
  · exact .inl ⟨h, by rw [h]; simp⟩
  · refine .inr ⟨by omega, ?_⟩
    rw [← Int.add_emod_right, Int.emod_eq_of_lt (by omega) (by omega)]; omega
theorem com_in {P a w b v k : Int} (h1 : Okp P (a, w)) (h2 : Okp P (b, v)) : ((comI P a w b v).filter (inI P k)).length = if inI P k (a, w) && inI P k (b, v) then 1 else 0 := by
  obtain ⟨a0, a1, w0, w1⟩ := h1
  obtain ⟨b0, b1, v0, v1⟩ := h2
  simp only at a0 a1 w0 w1 b0 b1 v0 v1
  have hP : 0 < P := by omega
  have x := mod_b (a := k - 2 * a) (n := 2 * P) (by omega)
  have y := mod_b (a := k - 2 * b) (n := 2 * P) (by omega)
  have z := mod_b (a := k - 2 * 0) (n := 2 * P) (by omega)
  have d := mod_b (a := b - a) (n := P) hP
  have r := mod_rel (a := a) (b := b) (k := k) hP
  have o := mod_op (a := a) (b := b) hP
  have dz : (b - a) % P = 0 ↔ b = a := by
    constructor
    · intro h
      have q2 := Int.emod_add_mul_ediv (b - a) P
      rw [h] at q2
      have : (b - a) / P = 0 := by
        rcases Int.lt_trichotomy ((b - a) / P) 0 with t | t | t
        · exfalso; have := Int.mul_le_mul_of_nonneg_left (show (b - a) / P ≤ -1 by omega) (show 0 ≤ P by omega); omega
        · exact t
        · exfalso; have := Int.mul_le_mul_of_nonneg_left (show 1 ≤ (b - a) / P by omega) (show 0 ≤ P by omega); omega
      rw [this] at q2; omega
    · intro h; rw [h]; simp
  have L1 : ∀ p, (List.filter (inI P k) [p]).length = if inI P k p then 1 else 0 := fun p => by
    by_cases h : inI P k p = true <;> simp [h]
  have L2 : ∀ p q, (List.filter (inI P k) [p, q]).length = (if inI P k p then 1 else 0) + (if inI P k q then 1 else 0) := fun p q => by
    by_cases h : inI P k p = true <;> by_cases h' : inI P k q = true <;> simp [h, h']
  have i1 : ∀ u, inI P k (a, u) = decide ((k - 2 * a) % (2 * P) ≤ 2 * u) := fun u => rfl
  have i2 : ∀ u, inI P k (b, u) = decide ((k - 2 * b) % (2 * P) ≤ 2 * u) := fun u => rfl
  have i3 : ∀ u, inI P k (0, u) = decide ((k - 2 * 0) % (2 * P) ≤ 2 * u) := fun u => rfl
  unfold comI
  split
  · split
    · rw [L1, i1, i2, i3]
      simp only [Bool.and_eq_true, decide_eq_true_eq]
      split <;> split <;> omega
    · rw [L1, i1, i2]
      simp only [Bool.and_eq_true, decide_eq_true_eq]
      split <;> split <;> omega
  · split
    · rw [L1, i1, i2]
      simp only [Bool.and_eq_true, decide_eq_true_eq]
      split <;> split <;> omega
    · by_cases z1 : cutI P a w b v = []
      · have c1 : w - (b - a) % P < 0 := by
          unfold cutI at z1
          split at z1
          · assumption
          · cases z1
        rw [if_pos (.inl z1), if_pos z1]
        by_cases z2 : cutI P b v a w = []
        · have c2 : v - (a - b) % P < 0 := by
            unfold cutI at z2
            split at z2
            · assumption
            · cases z2
          rw [z2, i1, i2]
          simp only [Bool.and_eq_true, decide_eq_true_eq, List.filter_nil, List.length_nil]
          split <;> omega
        · obtain ⟨c2, e2⟩ := cut_one z2
          rw [e2, L1, i1, i1, i2]
          simp only [Bool.and_eq_true, decide_eq_true_eq]
          split <;> split <;> split <;> omega
      · obtain ⟨c1, e1⟩ := cut_one z1
        by_cases z2 : cutI P b v a w = []
        · have c2 : v - (a - b) % P < 0 := by
            unfold cutI at z2
            split at z2
            · assumption
            · cases z2
          rw [if_pos (.inr (.inl z2)), if_neg z1, e1, L1, i1, i2, i2]
          simp only [Bool.and_eq_true, decide_eq_true_eq]
          split <;> split <;> split <;> omega
        · obtain ⟨c2, e2⟩ := cut_one z2
          by_cases z3 : b = a
          · rw [if_pos (.inr (.inr z3)), if_neg z1, e1, L1, i1, i2, i2]
            simp only [Bool.and_eq_true, decide_eq_true_eq]
            have := dz.mpr z3
            split <;> split <;> split <;> omega
          · rw [if_neg (by simp [z1, z2, z3])]
            have : (b - a) % P ≠ 0 := fun e => z3 (dz.mp e)
            split
            · rw [e1, e2, List.singleton_append, L2, i1, i2, i1, i2]
              simp only [Bool.and_eq_true, decide_eq_true_eq]
              split <;> split <;> split <;> split <;> split <;> omega
            · rw [e1, e2, List.singleton_append, L2, i1, i2, i1, i2]
              simp only [Bool.and_eq_true, decide_eq_true_eq]
              split <;> split <;> split <;> split <;> split <;> omega
theorem ar_eqX (c : Cs) {P : Int} (hP : 0 < P) (ts : List Tg) (h : (.own c.cArc) ∈ ts) (p q : Int × Int) (m : Mu) (n : Nat) : eqX [(c.kArc, padF 2 [] (F_ArcD_eqD c), ts)] m (n + 1) (ar c P p) (ar c P q) = some (decide (p = q)) := by
  unfold ar arc
  rw [eqX_obj]
  have e := arc_eq c (Rat.divInt p.1 P) (Rat.divInt p.2 P) (Rat.divInt q.1 P) (Rat.divInt q.2 P) m
  have z : (Rat.divInt p.1 P = Rat.divInt q.1 P ∧ Rat.divInt p.2 P = Rat.divInt q.2 P) ↔ p = q := by
    rw [di_inj hP, di_inj hP]
    exact ⟨fun h => Prod.ext h.1 h.2, fun h => by rw [h]; exact ⟨rfl, rfl⟩⟩
  simp only [z] at e
  unfold arc at e
  simp [eqRow, tagOf, h, e]
theorem ar_solid (c : Cs) (P : Int) (p : Int × Int) : solid (ar c P p) = true := rfl
theorem ars_eqX (c : Cs) {P : Int} (hP : 0 < P) (ts : List Tg) (h : (.own c.cArc) ∈ ts) {m : Mu} {x y : D} {ps qs : List (Int × Int)} (hx : seqL m x = some (ps.map (ar c P))) (hy : seqL m y = some (qs.map (ar c P))) :
    gNeX [(c.kArc, padF 2 [] (F_ArcD_eqD c), ts)] 5 x y m = .ok (.bl (!decide (ps = qs))) m :=
  gNeX_of (insOf_seqL hx) (eqX_smap hx hy (fun a _ b _ => ar_ne c hP) (ar_solid c P) fun a _ b _ => ar_eqX c hP ts h a b m 3)
theorem bag_app {m : Mu} (h : BagOk m) (ex : Mu) : BagOk (m ++ ex) := by
  obtain ⟨o, h1, h2⟩ := h.ex
  refine ⟨o, ?_, h2⟩
  cases m with
  | nil => simp at h1
  | cons x t => simpa using h1
theorem bag_pos {m : Mu} (h : BagOk m) : 0 < m.length := by
  obtain ⟨o, h1, h2⟩ := h.ex
  cases m with
  | nil => simp at h1
  | cons x t => simp
theorem cl_set {m : Mu} (h : Cl m) (k : Nat) : Cl (m.set k (.lst [])) := by
  intro q hq
  rw [List.length_set]
  rcases List.mem_or_eq_of_mem_set hq with z | z
  · exact h q z
  · subst z; rfl
theorem bag_set {m : Mu} (h : BagOk m) {k : Nat} (hk : 0 < k) (o' : Mo) : BagOk (m.set k o') := by
  obtain ⟨o, h1, h2⟩ := h.ex
  refine ⟨o, ?_, h2⟩
  rw [List.getElem?_set_ne (by omega)]; exact h1
theorem ars_eq0 (c : Cs) {P : Int} (hP : 0 < P) (ts : List Tg) {m : Mu} (ps : List (Int × Int)) : eqX [(c.kArc, padF 2 [] (F_ArcD_eqD c), ts)] m 5 (.lst (ps.map (ar c P))) (.lst []) = some (decide (ps = [])) := by
  rw [eqX_lst]
  cases ps with
  | nil => rfl
  | cons a t => rw [if_neg (by simp)]; rfl
/-! ### names of any text -/
def occD (d : D) : Bool := match d with
  | .str s => occurs s (Str.ofString "abcdefghijklmnopqrstuvwxyz")
  | _ => false
def nameB (w : Str) : Bool := decide (1 ≤ w.length ∧ w.length ≤ 8) && (signs w).all occD
theorem signs_len (w : Str) : (signs w).length = w.length := by unfold signs Str.length; simp
theorem signs_str {w : Str} {d : D} (h : d ∈ signs w) : ∃ s, d = .str s := by
  unfold signs at h
  obtain ⟨ch, _, rfl⟩ := List.mem_map.mp h
  exact ⟨_, rfl⟩
theorem occ_comp {g : DG} {b : DE} {e : En} {i : Nat} (w : Str) (hw : w.length ≤ 100) (m : Mu) (h : ∀ s : Str, ∃ e1, g (.str s) e = some e1 ∧ b e1 m = .ok (.bl (occD (.str s))) m) : dCompL g dYes b e (signs w) m [] = .ok ((signs w).map fun d => .bl (occD d)) m := by
  have hs : sizeLine = 16777216 := rfl
  have := dCompL_map (g := g) (c := dYes) (b := b) (e := e) (m := m) (fun d => .bl (occD d)) (signs w) [] (fun d hd => by
    obtain ⟨s, rfl⟩ := signs_str hd
    obtain ⟨e1, h1, h2⟩ := h s
    exact ⟨e1, h1, by simp, h2⟩) (by rw [signs_len, hs]; simp; omega)
  simpa using this
/-! ### shares, times and lights that are none -/
theorem Grew.snoc {m : Mu} {o : Mo} (h : Cl m) (ho : o.below (m.length + 1) = true) : Grew m (m ++ [o]) := .one (h.snoc ho)
abbrev told3 (k : Str) (d : D) : D := .tup [.str k, .tup [d]]
theorem rat_self (c : Cs) (r : Rat) (m : Mu) (ts : List Tg) (h : .own c.cRatio ∈ ts) : solid (rat c r) = true ∧ eqX [(c.kRatio, padF 2 [] (F_RatioD_eqD c), ts)] m 4 (rat c r) (rat c r) = some true := by
  refine ⟨rfl, ?_⟩
  have e := eq_ok c r r m
  unfold rat at e ⊢
  rw [eqX_obj]
  simp [eqRow, tagOf, h, e]
/-! ### ascending: a sort by merging, without duplicates -/
def Asc (qs : List Rat) : Prop := qs.Pairwise (· < ·)
theorem Asc.uniq : ∀ {qs rs : List Rat}, Asc qs → Asc rs → (∀ q, q ∈ qs ↔ q ∈ rs) → qs = rs
  | [], [], _, _, _ => rfl
  | [], r :: rs, _, _, h => by have := (h r).mpr (by simp); simp at this
  | q :: qs, [], _, _, h => by have := (h q).mp (by simp); simp at this
  | q :: qs, r :: rs, h1, h2, h => by
    obtain ⟨a1, a2⟩ := List.pairwise_cons.mp h1
    obtain ⟨b1, b2⟩ := List.pairwise_cons.mp h2
    have e : q = r := by
      have h3 := (h q).mp (by simp)
      have h4 := (h r).mpr (by simp)
      rcases List.mem_cons.mp h3 with e | e
      · exact e
      · rcases List.mem_cons.mp h4 with e' | e'
        · exact e'.symm
        · have := a1 r e'; have := b1 q e; grind
    subst e
    rw [Asc.uniq a2 b2 fun x => ?_]
    constructor
    · intro hx
      have := a1 x hx
      rcases List.mem_cons.mp ((h x).mp (by simp [hx])) with z | z
      · rw [z] at this; grind
      · exact z
    · intro hx
      have := b1 x hx
      rcases List.mem_cons.mp ((h x).mpr (by simp [hx])) with z | z
      · rw [z] at this; grind
      · exact z
theorem cl_setL {m : Mu} (h : Cl m) (k : Nat) {ds : List D} (hd : belows 0 ds = true) : Cl (m.set k (.lst ds)) := by
  intro q hq
  rw [List.length_set]
  rcases List.mem_or_eq_of_mem_set hq with z | z
  · exact h q z
  · subst z; exact belows_mono (Nat.zero_le _) ds hd
theorem cutD_drop (xs : List D) {a : Nat} (ha : a ≤ xs.length) : cutD xs (some (a : Int)) none = xs.drop a := by
  unfold cutD
  rw [HT.sIx_none, HT.sIx_nat, Nat.min_eq_left ha]
  exact List.take_of_length_le (by simp)
/-! ### plain values against the empty list -/
/-- plain values, nested at most n deep -/
def plP : Nat → D → Prop
  | 0, _ => False
  | _ + 1, .non => True
  | _ + 1, .bl _ => True
  | _ + 1, .int _ => True
  | _ + 1, .str x => PyData.strOk x = true
  | n + 1, .tup ds => ∀ d ∈ ds, plP n d
  | n + 1, .lst ds => ∀ d ∈ ds, plP n d
  | _ + 1, _ => False
theorem plPs_py {n : Nat} (h : ∀ d, plP n d → ∃ p, toPy d = some p ∧ p.canLay0 = true ∧ p.depth ≤ n) : ∀ ds : List D, (∀ d ∈ ds, plP n d) → ∃ ps, toPys ds = some ps ∧ PyData.canLayAll0 ps = true ∧ PyData.depthAll ps ≤ n ∧ ps.length = ds.length
  | [], _ => ⟨[], rfl, rfl, Nat.zero_le _, rfl⟩
  | d :: ds, hd => by
    obtain ⟨p, h1, h2, h3⟩ := h d (hd d (by simp))
    obtain ⟨ps, k1, k2, k3, k4⟩ := plPs_py h ds fun x hx => hd x (by simp [hx])
    refine ⟨p :: ps, by simp [toPys, h1, k1], by simp [PyData.canLayAll0, h2, k2], ?_, by simp [k4]⟩
    unfold PyData.depthAll
    omega
theorem plP_py : ∀ (n : Nat) (d : D), plP n d → ∃ p, toPy d = some p ∧ p.canLay0 = true ∧ p.depth ≤ n
  | 0, _, h => h.elim
  | n + 1, .non, _ => ⟨_, rfl, rfl, Nat.zero_le _⟩
  | n + 1, .bl _, _ => ⟨_, rfl, rfl, Nat.zero_le _⟩
  | n + 1, .int _, _ => ⟨_, rfl, rfl, Nat.zero_le _⟩
  | n + 1, .str x, h => ⟨_, rfl, h, Nat.zero_le _⟩
  | n + 1, .tup ds, h => by
    obtain ⟨ps, k1, k2, k3, k4⟩ := plPs_py (plP_py n) ds h
    refine ⟨.tuple ps, by simp [toPy, k1], by simpa [PyData.canLay0] using k2, ?_⟩
    unfold PyData.depth
    omega
  | n + 1, .lst ds, h => by
    obtain ⟨ps, k1, k2, k3, k4⟩ := plPs_py (plP_py n) ds h
    refine ⟨.list ps, by simp [toPy, k1], by simpa [PyData.canLay0] using k2, ?_⟩
    unfold PyData.depth
    omega
theorem gEq_lnil {m : Mu} {x : D} {ds : List D} {n : Nat} (hx : seqL m x = some ds) (h : ∀ d ∈ ds, plP n d) (hn : n ≤ 60 := by decide) : gEq x (.lst []) m = .ok (.bl (decide (ds = []))) m := by
  obtain ⟨ps, k1, k2, k3, k4⟩ := plPs_py (plP_py n) ds h
  have p1 : pyOf m x = some (.list ps) := by unfold pyOf thaw1; rw [hx]; simp [toPy, k1]
  have sh : (SeqAt.shaped (.list ps) && SeqAt.shaped (.list [])) = true := by
    have : SeqAt.shaped (.list ps) = true := by
      unfold SeqAt.shaped
      rw [Bool.and_eq_true, decide_eq_true_eq]
      refine ⟨by simpa [PyData.canLay0] using k2, ?_⟩
      unfold PyData.depth; omega
    rw [this]; rfl
  have sc : scEq x (.lst []) = none := by
    cases x <;> first | rfl | (simp [seqL] at hx)
  have q : PyData.eqv (.list ps) (.list []) = decide (ds = []) := by
    cases ds with
    | nil => obtain rfl := List.length_eq_zero_iff.mp k4; rfl
    | cons d ds =>
      cases ps with
      | nil => simp at k4
      | cons p ps => simp [PyData.eqv, PyData.eqvAll]
  unfold gEq orD gEqS
  rw [sc]
  have p2 : pyOf m (.lst []) = some (.list []) := rfl
  simp only [gEqD, p1, p2]
  rw [if_pos sh, q, Bool.false_xor]
theorem dLoop_rng {g : DG} {b : DS} {lo : Int} (I : Nat → En → Mu → Prop) {N : Nat} (h : ∀ k : Nat, k < N → ∀ e m, I k e m → ∃ e1 e2 m2, g (.int (lo + (k : Int))) e = some e1 ∧ b e1 m = .nx e2 m2 ∧ I (k + 1) e2 m2) {e : En} {m : Mu} (h0 : I 0 e m) : ∃ e2 m2, dLoop g b (rngD lo N) e m = .nx e2 m2 ∧ I N e2 m2 := by
  have go : ∀ (n a : Nat) (e : En) (m : Mu), a + n = N → I a e m → ∃ e2 m2, dLoop g b ((List.range' a n).map fun k : Nat => D.int (lo + (k : Int))) e m = .nx e2 m2 ∧ I N e2 m2 := by
    intro n
    induction n with
    | zero => intro a e m ha hi; exact ⟨e, m, rfl, by rw [show N = a by omega]; exact hi⟩
    | succ n ih =>
      intro a e m ha hi
      obtain ⟨e1, e2, m2, h1, h2, h3⟩ := h a (by omega) e m hi
      obtain ⟨e3, m3, h4, h5⟩ := ih (a + 1) e2 m2 (by omega) h3
      refine ⟨e3, m3, ?_, h5⟩
      rw [List.range'_succ, List.map_cons]
      exact (dLoop_step h1 h2).trans h4
  unfold rngD
  rw [List.range_eq_range']
  exact go N 0 e m (by omega) h0
theorem ascI_uniq : ∀ {qs rs : List Int}, qs.Pairwise (· < ·) → rs.Pairwise (· < ·) → (∀ q, q ∈ qs ↔ q ∈ rs) → qs = rs
  | [], [], _, _, _ => rfl
  | [], r :: rs, _, _, h => by have := (h r).mpr (by simp); simp at this
  | q :: qs, [], _, _, h => by have := (h q).mp (by simp); simp at this
  | q :: qs, r :: rs, h1, h2, h => by
    obtain ⟨a1, a2⟩ := List.pairwise_cons.mp h1
    obtain ⟨b1, b2⟩ := List.pairwise_cons.mp h2
    have e : q = r := by
      have h3 := (h q).mp (by simp)
      have h4 := (h r).mpr (by simp)
      rcases List.mem_cons.mp h3 with e | e
      · exact e
      · rcases List.mem_cons.mp h4 with e' | e'
        · exact e'.symm
        · have := a1 r e'; have := b1 q e; omega
    subst e
    rw [ascI_uniq a2 b2 fun x => ?_]
    constructor
    · intro hx
      have := a1 x hx
      rcases List.mem_cons.mp ((h x).mp (by simp [hx])) with z | z
      · rw [z] at this; omega
      · exact z
    · intro hx
      have := b1 x hx
      rcases List.mem_cons.mp ((h x).mpr (by simp [hx])) with z | z
      · rw [z] at this; omega
      · exact z
/-- the first item that passes -/
theorem filter_first {w n : Nat} {p : Nat → Bool} (h1 : w < n) (h2 : p w = true) (h3 : ∀ j, j < w → p j = false) : ((List.range n).filter p).head? = some w := by
  rw [List.head?_filter, List.find?_eq_some_iff_append]
  refine ⟨h2, List.range w, (List.range' (w + 1) (n - w - 1)), ?_, fun j hj => ?_⟩
  · rw [List.range_eq_range', List.range_eq_range', show n = w + (1 + (n - w - 1)) by omega, ← List.range'_append_1, Nat.zero_add]
    congr 1
    rw [Nat.add_comm 1, List.range'_succ]
    congr 2
    omega
  · rw [h3 j (List.mem_range.mp hj)]; rfl
/-! ### loops and draws in a maker: the same for all cells -/
/-- draws in a comprehension: the same wherever the cells stand -/
theorem comp_drawG {g : DG} {cc : DT} (Q : DE → En → Prop) (P : D → D → Prop) : ∀ (ds acc : List D) (m : Mu), BagOk m →
    (∀ d ∈ ds, ∀ m, BagOk m → ∃ x m', (∀ b e, Q b e → ∃ e1, g d e = some e1 ∧ cc e1 m = .ok true m ∧ b e1 m = .ok x m') ∧ P d x ∧ Bgs m m') → acc.length + ds.length ≤ sizeLine →
    ∃ xs m', (∀ b e, Q b e → dCompL g cc b e ds m acc = .ok (acc ++ xs) m') ∧ Two P ds xs ∧ Bgs m m'
  | [], acc, m, hb, _, _ => ⟨[], m, by simp [dCompL], .nil, hb.rfl'⟩
  | d :: ds, acc, m, hb, h, hl => by
    obtain ⟨x, m1, h1, h2, g1⟩ := h d (by simp) m hb
    obtain ⟨xs, m2, k1, k2, g2⟩ := comp_drawG Q P ds (acc ++ [x]) m1 (g1.bag hb) (fun d' hd => h d' (by simp [hd])) (by simp at hl ⊢; omega)
    refine ⟨x :: xs, m2, fun b e hq => ?_, .cons h2 k2, g1.trans g2⟩
    obtain ⟨e1, q1, q2, q3⟩ := h1 b e hq
    unfold dCompL
    rw [q1]
    simp only [q2, q3]
    rw [if_pos (by simp at hl; omega), k1 b e hq]
    simp
/-- a loop in a maker, with what the steps draw -/
theorem loop_allGS {S : Type} {G : DG} {b : List (Str × Addr) → DS} {M : S → Mu → Prop} {E : S → En → Prop} : ∀ (ds : List D) (s : S) (m : Mu), (∀ d ∈ ds, ∀ s m, M s m → ∃ s2 m2, M s2 m2 ∧ ∀ g e, E s e → ∃ e1 e2, G d e = some e1 ∧ b g e1 m = .nx e2 m2 ∧ E s2 e2) → M s m →
    ∃ s2 m2, M s2 m2 ∧ ∀ g e, E s e → ∃ e2, dLoop G (b g) ds e m = .nx e2 m2 ∧ E s2 e2
  | [], s, m, _, hm => ⟨s, m, hm, fun g e he => ⟨e, rfl, he⟩⟩
  | d :: ds, s, m, h, hm => by
    obtain ⟨s1, m1, h1, k1⟩ := h d (by simp) s m hm
    obtain ⟨s2, m2, h2, k2⟩ := loop_allGS ds s1 m1 (fun d' hd => h d' (by simp [hd])) h1
    refine ⟨s2, m2, h2, fun g e he => ?_⟩
    obtain ⟨e1, e2, a1, a2, a3⟩ := k1 g e he
    obtain ⟨e3, b1, b2⟩ := k2 g e2 a3
    exact ⟨e3, by simp only [dLoop, a1, a2]; exact b1, b2⟩
theorem toBs_mapA {α : Type} (f : α → Bool) : ∀ xs : List α, toBs (xs.map fun x => .bl (f x)) = some (xs.map f)
  | [] => rfl
  | x :: xs => by simp [toBs, toBs_mapA f xs]
theorem two_ints {P : Int} {ds xs : List D} (h : Two (fun _ x => ∃ k : Int, x = .int k ∧ 0 ≤ k ∧ k < P) ds xs) : ∃ ks : List Int, xs = ks.map .int ∧ ks.length = ds.length ∧ ∀ k ∈ ks, 0 ≤ k ∧ k < P := by
  induction h with
  | nil => exact ⟨[], rfl, rfl, by simp⟩
  | cons h _ ih =>
    obtain ⟨k, rfl, ok⟩ := h
    obtain ⟨ks, rfl, h1, h2⟩ := ih
    exact ⟨k :: ks, rfl, by simp [h1], fun q hq => by
      rcases List.mem_cons.mp hq with rfl | hq
      · exact ok
      · exact h2 q hq⟩
theorem zipD {α β : Type} (f : α → D) (g : β → D) : ∀ (xs : List α) (ys : List β), (xs.map f).zipWith (fun x y => D.tup [x, y]) (ys.map g) = (xs.zip ys).map fun p => D.tup [f p.1, g p.2]
  | [], _ => by simp
  | _ :: _, [] => by simp
  | x :: xs, y :: ys => by simp [zipD f g xs ys]
/-- a band passes a light exactly if it is inside of the green -/
theorem pass_iff {P z w s o r : Int} (hP : 0 < P) : decide (Rat.divInt s P = 1 ∨ mom (mom (Rat.divInt z P + Rat.divInt o P) - mom (mom (Rat.divInt r P))) + Rat.divInt w P ≤ Rat.divInt s P) = decide (s = P ∨ ((z + o) - r) % P + w ≤ s) := by
  rw [decide_eq_decide, mom_mom, di_add, mom_divInt _ hP, mom_divInt _ hP, di_sub, mom_divInt _ hP, di_add, di_le hP, Int.emod_sub_emod, Int.sub_emod_emod]
  rw [show (Rat.divInt s P = 1 ↔ s = P) from by rw [← di_self hP]; exact di_inj hP]
/-! ### what is due -/
def dueO (P z w : Int) (p : Row × Int) : Bool := decide (p.1.s = P ∨ ((z + p.1.o) - p.2) % P + w ≤ p.1.s)
def dueB (P z w : Int) (p : Row × Int) : Bool := decide (p.1.s = P ∨ ((z - p.1.b) - p.2) % P + w ≤ p.1.s)
theorem rats_b (c : Cs) : ∀ qs : List Rat, ∀ n, belows n (qs.map (rat c)) = true
  | [], _ => rfl
  | _ :: qs, n => by simp only [List.map_cons, belows, rat_below, Bool.true_and, rats_b c qs n]
/-! ### covers of a cycle by open or closed arcs of whole parts -/
/-- how far an arw goes on behind a spot in it -/
def iw (op : Bool) (W x : Int) (p : Int × Int) : Int := if p.2 < 0 ∨ (op = true ∧ (x - p.1) % W = 0) then 0 else if p.2 - (x - p.1) % W > 0 then p.2 - (x - p.1) % W else 0
theorem iw_pos {op : Bool} {W x : Int} (hW : 0 < W) {p : Int × Int} : 0 < iw op W x p ↔ (x - p.1) % W < p.2 ∧ (op = true → 0 < (x - p.1) % W) := by
  have := mod_b (a := x - p.1) hW
  unfold iw
  cases op with
  | true =>
    simp only [true_and, forall_const]
    split
    · constructor <;> intro h <;> omega
    · split <;> (constructor <;> intro h <;> omega)
  | false =>
    simp only [Bool.false_eq_true, false_and, or_false, false_implies, and_true]
    split
    · constructor <;> intro h <;> omega
    · split <;> (constructor <;> intro h <;> omega)
theorem iw_nn {op : Bool} {W x : Int} {p : Int × Int} : 0 ≤ iw op W x p := by
  unfold iw; split
  · omega
  · split <;> omega
theorem iw_val {op : Bool} {W x : Int} {p : Int × Int} (h : 0 < iw op W x p) : iw op W x p = p.2 - (x - p.1) % W := by
  unfold iw at h ⊢
  split at h
  · omega
  · rename_i z; rw [if_neg z]; split at h
    · rename_i z2; rw [if_pos z2]
    · omega
theorem iw_mod {op : Bool} {W x : Int} {p : Int × Int} : iw op W (x % W) p = iw op W x p := by unfold iw; rw [Int.emod_sub_emod]
def Cov (op : Bool) (W : Int) (A : List (Int × Int)) : Prop := ∀ x : Int, ∃ p ∈ A, 0 < iw op W x p
def someF (op : Bool) (p : Int × Int) : Bool := decide (0 < p.2) || (decide (p.2 = 0) && !op)
theorem iw_some {op : Bool} {W x : Int} (hW : 0 < W) {p : Int × Int} (h : 0 < iw op W x p) : someF op p = true := by
  have := mod_b (a := x - p.1) hW
  have := (iw_pos hW).mp h
  unfold someF
  rw [Bool.or_eq_true, decide_eq_true_eq]; left; omega
/-- the rest of the way, counted from the end of an arw that goes on there -/
theorem iw_rest {op : Bool} {W x e : Int} (hW : 0 < W) {q : Int × Int} (hq : q.2 ≤ W) (h : 0 < iw op W e q) (hx : ¬ 0 < iw op W x q) :
    iw op W e q ≤ (x - e) % W ∧ (x - (q.1 + q.2)) % W = (x - e) % W - iw op W e q := by
  rw [iw_val h]
  have h1 := (iw_pos hW).mp h
  rw [iw_pos hW] at hx
  have mt := mod_b (a := x - e) hW
  have mw := mod_b (a := e - q.1) hW
  obtain ⟨t, ht⟩ : ∃ t, (x - e) % W = t := ⟨_, rfl⟩
  obtain ⟨w, hw⟩ : ∃ t, (e - q.1) % W = t := ⟨_, rfl⟩
  rw [ht] at mt ⊢
  rw [hw] at mw h1 ⊢
  have e1 : (x - q.1) % W = (t + w) % W := by
    rw [← ht, ← hw, ← Int.add_emod]; congr 1; omega
  rw [e1] at hx
  have key : q.2 - w ≤ t := by
    by_cases z : t + w < W
    · rw [Int.emod_eq_of_lt (by omega) z] at hx
      by_cases z2 : t + w < q.2
      · exact absurd ⟨z2, fun ho => by have := h1.2 ho; omega⟩ hx
      · omega
    · omega
  refine ⟨key, ?_⟩
  have e2 : (x - (q.1 + q.2)) % W = (t - (q.2 - w)) % W := by
    rw [show x - (q.1 + q.2) = ((x - e) + (e - q.1)) - q.2 by omega, Int.sub_emod, Int.add_emod, ht, hw, ← Int.sub_emod]
    congr 1; omega
  rw [e2, Int.emod_eq_of_lt (by omega) (by omega)]
theorem cov_ends {op : Bool} {W : Int} (hW : 0 < W) {A : List (Int × Int)} (hw : ∀ p ∈ A, p.2 ≤ W) :
    Cov op W A ↔ A.filter (someF op) ≠ [] ∧ ∀ p ∈ A.filter (someF op), ∃ q ∈ A.filter (someF op), 0 < iw op W ((p.1 + p.2) % W) q := by
  constructor
  · intro h
    have k : ∀ x, ∃ q ∈ A.filter (someF op), 0 < iw op W x q := fun x => by
      obtain ⟨q, hq, h1⟩ := h x
      exact ⟨q, List.mem_filter.mpr ⟨hq, iw_some hW h1⟩, h1⟩
    refine ⟨fun z => ?_, fun p _ => k _⟩
    obtain ⟨q, hq, _⟩ := k 0
    rw [z] at hq; simp at hq
  · rintro ⟨h1, h2⟩ x
    obtain ⟨p, hp, hmin⟩ := exists_min (fun p : Int × Int => (x - (p.1 + p.2)) % W) (A.filter (someF op)) h1
    obtain ⟨q, hq, h3⟩ := h2 p hp
    rw [iw_mod] at h3
    refine ⟨q, (List.mem_filter.mp hq).1, ?_⟩
    rcases Classical.em (0 < iw op W x q) with z | z
    · exact z
    · exfalso
      have r := iw_rest hW (hw q (List.mem_filter.mp hq).1) h3 z
      have := hmin q hq
      omega
/-! ### few arcs, one after another -/
def cwGo (op : Bool) (W : Int) (A : List (Int × Int)) (a : Int) : Nat → Int → List Nat → Option (List Nat)
  | 0, _, _ => none
  | n + 1, cov, found => if cov > W ∨ (cov = W ∧ op = false) then some found else
    if maxI (A.map (iw op W ((a + cov) % W))) = 0 then none else cwGo op W A a n (cov + maxI (A.map (iw op W ((a + cov) % W)))) (found ++ [(A.map (iw op W ((a + cov) % W))).idxOf (maxI (A.map (iw op W ((a + cov) % W))))])
def cw (op : Bool) (W : Int) (A : List (Int × Int)) (i : Nat) : Option (List Nat) := match A[i]? with
  | some p => if p.2 < 0 ∨ (p.2 = 0 ∧ op = true) then none else cwGo op W A p.1 A.length p.2 [i]
  | none => none
/-- the arcs of some indexes -/
def arcsOf (A : List (Int × Int)) (C : List Nat) : List (Int × Int) := C.filterMap (A[·]?)
theorem mem_arcsOf {A : List (Int × Int)} {C : List Nat} {p : Int × Int} : p ∈ arcsOf A C ↔ ∃ i ∈ C, A[i]? = some p := by
  unfold arcsOf; rw [List.mem_filterMap]
theorem best_at {xs : List Int} (h : xs ≠ []) : ∃ j, xs.idxOf (maxI xs) = j ∧ xs[j]? = some (maxI xs) ∧ ∀ x ∈ xs, x ≤ maxI xs := by
  have mo := maxI_ok (ns := xs) (List.length_pos_iff.mpr h)
  refine ⟨_, rfl, ?_, mo.2⟩
  have hl := List.idxOf_lt_length_of_mem mo.1
  rw [List.getElem?_eq_getElem hl, List.getElem_idxOf hl]
/-- what the arcs found so far have -/
def Has (op : Bool) (W : Int) (A : List (Int × Int)) (a cov : Int) (found : List Nat) : Prop := ∀ t : Int, 0 ≤ t → t < cov → (op = true → 0 < t) → ∃ p ∈ arcsOf A found, 0 < iw op W (a + t) p
theorem cwGo_sound {op : Bool} {W : Int} (hW : 0 < W) {A : List (Int × Int)} (hw : ∀ p ∈ A, p.2 ≤ W) (a : Int) : ∀ (n : Nat) (cov : Int) (found r : List Nat), Has op W A a cov found → (∀ i ∈ found, i < A.length) → cwGo op W A a n cov found = some r → Cov op W (arcsOf A r) ∧ (∀ i ∈ r, i < A.length) ∧ found.length ≤ r.length
  | 0, _, _, _, _, _, h => by simp [cwGo] at h
  | n + 1, cov, found, r, hh, hi, h => by
    unfold cwGo at h
    split at h
    · rename_i z
      cases h
      refine ⟨fun x => ?_, hi, Nat.le_refl _⟩
      have mt := mod_b (a := x - a) hW
      have e : ∀ p, iw op W (a + (x - a) % W) p = iw op W x p := fun p => by
        rw [← iw_mod, Int.add_emod_emod, iw_mod]; congr 1; omega
      have e' : ∀ p, iw op W (a + ((x - a) % W + W)) p = iw op W x p := fun p => by
        rw [← iw_mod, ← Int.add_assoc, Int.add_emod_right, Int.add_emod_emod, iw_mod]; congr 1; omega
      by_cases z0 : (x - a) % W = 0
      · cases op with
        | false =>
          obtain ⟨p, hp, h1⟩ := hh ((x - a) % W) mt.1 (by omega) (by simp)
          exact ⟨p, hp, by rw [e] at h1; exact h1⟩
        | true =>
          have zlt : (x - a) % W + W < cov := by
            rcases z with z | ⟨_, z⟩
            · omega
            · cases z
          obtain ⟨p, hp, h1⟩ := hh ((x - a) % W + W) (by omega) zlt (fun _ => by omega)
          exact ⟨p, hp, by rw [e'] at h1; exact h1⟩
      · obtain ⟨p, hp, h1⟩ := hh ((x - a) % W) mt.1 (by omega) (fun _ => by omega)
        exact ⟨p, hp, by rw [e] at h1; exact h1⟩
    · split at h
      · cases h
      · rename_i z2
        obtain ⟨X, hX⟩ : ∃ X, A.map (iw op W ((a + cov) % W)) = X := ⟨_, rfl⟩
        rw [hX] at h z2
        have hne : X ≠ [] := by
          intro e; rw [e] at z2; exact z2 rfl
        obtain ⟨j, hj, hj2, hj3⟩ := best_at hne
        rw [hj] at h
        rw [← hX, List.getElem?_map, Option.map_eq_some_iff] at hj2
        obtain ⟨q, hq, hq2⟩ := hj2
        have jl : j < A.length := (List.getElem?_eq_some_iff.mp hq).1
        rw [hX] at hq2
        have qpos : 0 < iw op W (a + cov) q := by
          rw [← iw_mod, hq2]
          have := iw_nn (op := op) (W := W) (x := (a + cov) % W) (p := q)
          omega
        rw [iw_mod] at hq2
        have qw := hw q (List.mem_of_getElem? hq)
        have ih := cwGo_sound hW hw a n (cov + maxI X) (found ++ [j]) r (fun t t0 t1 t2 => by
          by_cases zt : t < cov
          · obtain ⟨p, hp, h1⟩ := hh t t0 zt t2
            obtain ⟨i, h2, h3⟩ := mem_arcsOf.mp hp
            exact ⟨p, mem_arcsOf.mpr ⟨i, by simp [h2], h3⟩, h1⟩
          · refine ⟨q, mem_arcsOf.mpr ⟨j, by simp, hq⟩, ?_⟩
            have v := iw_val qpos
            have h1 := (iw_pos hW).mp qpos
            have mw := mod_b (a := a + cov - q.1) hW
            rw [iw_pos hW]
            have e : (a + t - q.1) % W = (a + cov - q.1) % W + (t - cov) := by
              rw [show a + t - q.1 = (a + cov - q.1) + (t - cov) by omega, ← Int.emod_add_emod, Int.emod_eq_of_lt (by omega) (by omega)]
            rw [e]
            refine ⟨by omega, fun ho => ?_⟩
            have := h1.2 ho; omega) (fun i hi' => by
          rcases List.mem_append.mp hi' with h1 | h1
          · exact hi i h1
          · rw [List.mem_singleton.mp h1]; exact jl) h
        refine ⟨ih.1, ih.2.1, ?_⟩
        have := ih.2.2
        rw [List.length_append] at this; omega
theorem cw_sound {op : Bool} {W : Int} (hW : 0 < W) {A : List (Int × Int)} (hw : ∀ p ∈ A, p.2 ≤ W) {i : Nat} {r : List Nat} (h : cw op W A i = some r) : Cov op W (arcsOf A r) ∧ (∀ i ∈ r, i < A.length) ∧ r ≠ [] := by
  unfold cw at h
  split at h
  · rename_i p hp
    split at h
    · cases h
    · have s := cwGo_sound hW hw p.1 A.length p.2 [i] r (fun t t0 t1 t2 => ⟨p, mem_arcsOf.mpr ⟨i, by simp, hp⟩, by
        rw [iw_pos hW]
        have := hw p (List.mem_of_getElem? hp)
        rw [show p.1 + t - p.1 = t by omega, Int.emod_eq_of_lt t0 (by omega)]
        exact ⟨t1, t2⟩⟩) (fun j hj => by rw [List.mem_singleton.mp hj]; exact (List.getElem?_eq_some_iff.mp hp).1) h
      refine ⟨s.1, s.2.1, fun z => ?_⟩
      have := s.2.2
      rw [z] at this; simp at this
  · cases h
/-- a cover by as few arcs as there are -/
structure MinCov (op : Bool) (W : Int) (A : List (Int × Int)) (C : List Nat) : Prop where
  cov : Cov op W (arcsOf A C)
  min : ∀ C' : List Nat, Cov op W (arcsOf A C') → C.length ≤ C'.length
theorem minCov_ex {op : Bool} {W : Int} {A : List (Int × Int)} : ∀ (n : Nat) (C : List Nat), C.length ≤ n → Cov op W (arcsOf A C) → ∃ C0, MinCov op W A C0 ∧ C0.length ≤ C.length
  | 0, C, h, hc => ⟨C, ⟨hc, fun C' _ => by omega⟩, Nat.le_refl _⟩
  | n + 1, C, h, hc => by
    rcases Classical.em (∃ C', Cov op W (arcsOf A C') ∧ C'.length < C.length) with ⟨C', h1, h2⟩ | z
    · obtain ⟨C0, h3, h4⟩ := minCov_ex n C' (by omega) h1
      exact ⟨C0, h3, by omega⟩
    · refine ⟨C, ⟨hc, fun C' h1 => ?_⟩, Nat.le_refl _⟩
      rcases Nat.lt_or_ge C'.length C.length with h2 | h2
      · exact absurd ⟨C', h1, h2⟩ z
      · exact h2
theorem dup_ex : ∀ C : List Nat, ¬ C.Nodup → ∃ a, a ∈ C ∧ a ∈ C.erase a
  | [], h => absurd List.nodup_nil h
  | x :: C, h => by
    by_cases hx : x ∈ C
    · exact ⟨x, by simp, by simpa using hx⟩
    · have h2 : ¬ C.Nodup := fun z => h (List.nodup_cons.mpr ⟨hx, z⟩)
      obtain ⟨a, h3, h4⟩ := dup_ex C h2
      have ne : x ≠ a := fun e => hx (e ▸ h3)
      refine ⟨a, by simp [h3], ?_⟩
      rw [List.erase_cons_tail (by simpa using ne)]
      simp [h4]
theorem MinCov.valid {op : Bool} {W : Int} {A : List (Int × Int)} {C : List Nat} (h : MinCov op W A C) : (∀ i ∈ C, i < A.length) ∧ C.Nodup := by
  constructor
  · intro i hi
    rcases Nat.lt_or_ge i A.length with z | z
    · exact z
    · exfalso
      have hl := h.min (C.erase i) fun x => by
        obtain ⟨p, hp, h1⟩ := h.cov x
        obtain ⟨j, hj, hj2⟩ := mem_arcsOf.mp hp
        refine ⟨p, mem_arcsOf.mpr ⟨j, ?_, hj2⟩, h1⟩
        rw [List.mem_erase_of_ne]
        · exact hj
        · intro e; rw [e, List.getElem?_eq_none z] at hj2; cases hj2
      rw [List.length_erase_of_mem hi] at hl
      have := List.length_pos_of_mem hi; omega
  · rcases Classical.em C.Nodup with z | z
    · exact z
    · exfalso
      obtain ⟨a, h1, h2⟩ := dup_ex C z
      have hl := h.min (C.erase a) fun x => by
        obtain ⟨p, hp, h3⟩ := h.cov x
        obtain ⟨j, hj, hj2⟩ := mem_arcsOf.mp hp
        refine ⟨p, mem_arcsOf.mpr ⟨j, ?_, hj2⟩, h3⟩
        by_cases e : j = a
        · rw [e]; exact h2
        · exact (List.mem_erase_of_ne e).mpr hj
      rw [List.length_erase_of_mem h1] at hl
      have := List.length_pos_of_mem h1; omega
/-- an arw that has all spots of another one takes its place -/
theorem MinCov.no_twin {op : Bool} {W : Int} {A : List (Int × Int)} {C : List Nat} (h : MinCov op W A C) {i j : Nat} (hi : i ∈ C) (hj : j ∈ C) (hne : j ≠ i) {p q : Int × Int} (hp : A[i]? = some p) (hq : A[j]? = some q) (hs : ∀ x, 0 < iw op W x p → 0 < iw op W x q) : False := by
  have hl := h.min (C.erase i) fun x => by
    obtain ⟨r, hr, h1⟩ := h.cov x
    obtain ⟨k, hk, hk2⟩ := mem_arcsOf.mp hr
    by_cases e : k = i
    · subst e
      rw [hp] at hk2; cases hk2
      exact ⟨q, mem_arcsOf.mpr ⟨j, (List.mem_erase_of_ne hne).mpr hj, hq⟩, hs x h1⟩
    · exact ⟨r, mem_arcsOf.mpr ⟨k, (List.mem_erase_of_ne e).mpr hk, hk2⟩, h1⟩
  rw [List.length_erase_of_mem hi] at hl
  have := List.length_pos_of_mem hi; omega
/-- one arw after another, each time as far as any goes: not more than a cover needs that has the first one -/
theorem greedy_step {op : Bool} {W : Int} (hW : 0 < W) {A : List (Int × Int)} (hw : ∀ p ∈ A, p.2 ≤ W) {C : List Nat} (hC : MinCov op W A C) {i : Nat} (hi : i ∈ C) {p : Int × Int} (hp : A[i]? = some p) (p0 : 0 ≤ p.2) (p1 : op = true → 0 < p.2)
    {k : Nat} (G : Nat → Int) (g0 : G 0 = p.2) (un : ∀ r, r ≤ k → G r < W ∨ (op = true ∧ G r = W)) (inc : ∀ r, r < k → G r < G (r + 1)) (gr : ∀ r, r < k → ∀ q ∈ A, G r + iw op W (p.1 + G r) q ≤ G (r + 1)) : k + 1 < C.length := by
  have mono : ∀ r s, r ≤ s → s ≤ k → G r ≤ G s := by
    intro r s h
    induction s with
    | zero => intro _; have : r = 0 := by omega
              rw [this]; omega
    | succ s ih =>
      intro hs
      by_cases e : r = s + 1
      · rw [e]; omega
      · have := ih (by omega) (by omega); have := inc s (by omega); omega
  have hcov : ∀ r, ∃ j, j ∈ C ∧ ∃ q, A[j]? = some q ∧ 0 < iw op W (p.1 + G r) q := fun r => by
    obtain ⟨q, hq, h1⟩ := hC.cov (p.1 + G r)
    obtain ⟨j, hj, hj2⟩ := mem_arcsOf.mp hq
    exact ⟨j, hj, q, hj2, h1⟩
  obtain ⟨J, hJ⟩ := Classical.axiomOfChoice hcov
  -- none of them is the first one
  have ne : ∀ r, r ≤ k → J r ≠ i := fun r hr e => by
    obtain ⟨_, q, hq, h1⟩ := hJ r
    rw [e, hp] at hq; cases hq
    have h2 := (iw_pos hW).mp h1
    rw [show p.1 + G r - p.1 = G r by omega] at h2
    have := mono 0 r (by omega) hr
    rcases un r hr with u | ⟨u1, u2⟩
    · rw [Int.emod_eq_of_lt (by omega) u] at h2; omega
    · rw [u2, Int.emod_self] at h2
      have := h2.2 u1; omega
  have inj : ∀ r s, r < s → s ≤ k → J r ≠ J s := fun r s hrs hs e => by
    obtain ⟨c1, q, hq, h1⟩ := hJ r
    obtain ⟨_, q2, hq2, h2⟩ := hJ s
    rw [← e, hq] at hq2; cases hq2
    have qw := hw q (List.mem_of_getElem? hq)
    have v1 := iw_val h1
    have k1 := (iw_pos hW).mp h1
    have k2 := (iw_pos hW).mp h2
    have m1 := mod_b (a := p.1 + G r - q.1) hW
    have m2 := mod_b (a := p.1 + G s - q.1) hW
    have gs := gr r (by omega) q (List.mem_of_getElem? hq)
    have g1 := mono (r + 1) s (by omega) hs
    have g2 := mono 0 r (by omega) (by omega)
    obtain ⟨w, hwv⟩ : ∃ w, (p.1 + G r - q.1) % W = w := ⟨_, rfl⟩
    rw [hwv] at v1 k1 m1
    have e2 : (p.1 + G s - q.1) % W = (w + (G s - G r)) % W := by
      rw [← hwv, Int.emod_add_emod]; congr 1; omega
    rw [e2] at k2 m2
    have ge : W ≤ w + (G s - G r) := by
      rcases Int.lt_or_le (w + (G s - G r)) W with z | z
      · rw [Int.emod_eq_of_lt (by omega) z] at k2; omega
      · exact z
    have us := un s hs
    have dl : G s - G r < W := by
      rcases us with u | ⟨u1, u2⟩
      · omega
      · have := p1 u1; omega
    have e3 : (w + (G s - G r)) % W = w + (G s - G r) - W := by
      rw [← Int.sub_emod_right, Int.emod_eq_of_lt (by omega) (by omega)]
    rw [e3] at k2
    -- the arw begins no later than the first one and goes on behind its end
    refine hC.no_twin hi c1 (ne r (by omega)) hp hq fun x hx => ?_
    have h3 := (iw_pos hW).mp hx
    have mx := mod_b (a := x - p.1) hW
    rw [iw_pos hW]
    have sg : G r - w ≤ 0 := by
      rcases us with u | ⟨u1, u2⟩ <;> omega
    have sgo : op = true → G r - w < 0 := fun ho => by
      have := k2.2 ho
      rcases us with u | ⟨u1, u2⟩ <;> omega
    have e4 : (x - q.1) % W = (x - p.1) % W - (G r - w) := by
      have : (x - q.1) % W = ((x - p.1) % W - (G r - w)) % W := by
        rw [← hwv]
        rw [show (x - p.1) % W - (G r - (p.1 + G r - q.1) % W) = (x - p.1) % W - G r + (p.1 + G r - q.1) % W by omega]
        rw [Int.add_emod_emod, show (x - p.1) % W - G r + (p.1 + G r - q.1) = (x - p.1) % W + (p.1 - q.1) by omega, Int.emod_add_emod]
        congr 1; omega
      rw [this, Int.emod_eq_of_lt (by omega) (by omega)]
    rw [e4]
    refine ⟨by omega, fun ho => ?_⟩
    have := sgo ho; omega
  -- so many different ones beside the first one
  have nd : ((List.range (k + 1)).map J).Nodup := by
    rw [List.Nodup, List.pairwise_map]
    refine List.Pairwise.imp_of_mem ?_ List.pairwise_lt_range
    intro r s hr hs h
    exact inj r s h (by have := List.mem_range.mp hs; omega)
  have sub : ((List.range (k + 1)).map J) ⊆ C.erase i := by
    intro j hj
    obtain ⟨r, hr, rfl⟩ := List.mem_map.mp hj
    exact (List.mem_erase_of_ne (ne r (by have := List.mem_range.mp hr; omega))).mpr (hJ r).1
  have hl := List.Nodup.length_le_of_subset nd sub
  rw [List.length_map, List.length_range, List.length_erase_of_mem hi] at hl
  omega
theorem cwGo_min {op : Bool} {W : Int} (hW : 0 < W) {A : List (Int × Int)} (hw : ∀ p ∈ A, p.2 ≤ W) {C : List Nat} (hC : MinCov op W A C) {i : Nat} (hi : i ∈ C) {p : Int × Int} (hp : A[i]? = some p) (p0 : 0 ≤ p.2) (p1 : op = true → 0 < p.2) :
    ∀ (n k : Nat) (G : Nat → Int) (found : List Nat), G 0 = p.2 → (∀ r, r < k → G r < W ∨ (op = true ∧ G r = W)) → (∀ r, r < k → G r < G (r + 1)) → (∀ r, r < k → ∀ q ∈ A, G r + iw op W (p.1 + G r) q ≤ G (r + 1)) → found.length = k + 1 → C.length ≤ n + k → ∃ r, cwGo op W A p.1 n (G k) found = some r ∧ r.length ≤ C.length := by
  have cl : 0 < C.length := List.length_pos_of_mem hi
  intro n
  induction n with
  | zero =>
    intro k G found g0 un inc gr hf hn
    exfalso
    cases k with
    | zero => omega
    | succ k =>
      have := greedy_step hW hw hC hi hp p0 p1 (k := k) G g0 (fun r hr => un r (by omega)) (fun r hr => inc r (by omega)) (fun r hr => gr r (by omega))
      omega
  | succ n ih =>
    intro k G found g0 un inc gr hf hn
    unfold cwGo
    by_cases fin : G k > W ∨ (G k = W ∧ op = false)
    · rw [if_pos fin]
      refine ⟨found, rfl, ?_⟩
      cases k with
      | zero => omega
      | succ k =>
        have := greedy_step hW hw hC hi hp p0 p1 (k := k) G g0 (fun r hr => un r (by omega)) (fun r hr => inc r (by omega)) (fun r hr => gr r (by omega))
        omega
    · rw [if_neg fin]
      have uk : G k < W ∨ (op = true ∧ G k = W) := by
        cases op with
        | true => simp at fin ⊢; omega
        | false => simp at fin ⊢; omega
      obtain ⟨X, hX⟩ : ∃ X, A.map (iw op W ((p.1 + G k) % W)) = X := ⟨_, rfl⟩
      rw [hX]
      have hne : X ≠ [] := by
        intro e
        rw [e] at hX
        have := List.map_eq_nil_iff.mp hX
        rw [this] at hp; simp at hp
      obtain ⟨j, hj, hj2, hj3⟩ := best_at hne
      have pos : 0 < maxI X := by
        obtain ⟨q, hq, h1⟩ := hC.cov (p.1 + G k)
        obtain ⟨l, hl, hl2⟩ := mem_arcsOf.mp hq
        have := hj3 (iw op W ((p.1 + G k) % W) q) (by rw [← hX]; exact List.mem_map.mpr ⟨q, List.mem_of_getElem? hl2, rfl⟩)
        rw [iw_mod] at this; omega
      rw [if_neg (by omega), hj]
      obtain ⟨H, hH⟩ : ∃ H : Nat → Int, (fun r => if r ≤ k then G r else G k + maxI X) = H := ⟨_, rfl⟩
      have H1 : ∀ r, r ≤ k → H r = G r := fun r hr => by rw [← hH]; simp [hr]
      have H2 : H (k + 1) = G k + maxI X := by rw [← hH]; exact if_neg (by omega)
      obtain ⟨r, h1, h2⟩ := ih (k + 1) H (found ++ [j]) (by rw [H1 0 (by omega)]; exact g0) (fun r hr => by
        rw [H1 r (by omega)]
        by_cases e : r = k
        · rw [e]; exact uk
        · exact un r (by omega)) (fun r hr => by
        by_cases e : r = k
        · rw [e, H2, H1 k (by omega)]; omega
        · rw [H1 r (by omega), H1 (r + 1) (by omega)]; exact inc r (by omega)) (fun r hr q hq => by
        by_cases e : r = k
        · rw [e, H2, H1 k (by omega)]
          have := hj3 (iw op W ((p.1 + G k) % W) q) (by rw [← hX]; exact List.mem_map.mpr ⟨q, hq, rfl⟩)
          rw [iw_mod] at this; omega
        · rw [H1 r (by omega), H1 (r + 1) (by omega)]; exact gr r (by omega) q hq) (by simp [hf]) (by omega)
      rw [H2] at h1
      exact ⟨r, h1, h2⟩
theorem cw_min {op : Bool} {W : Int} (hW : 0 < W) {A : List (Int × Int)} (hw : ∀ p ∈ A, p.2 ≤ W) {C : List Nat} (hC : MinCov op W A C) {i : Nat} (hi : i ∈ C) : ∃ r, cw op W A i = some r ∧ r.length ≤ C.length := by
  have hv := hC.valid
  have il := hv.1 i hi
  obtain ⟨p, hp⟩ : ∃ p, A[i]? = some p := ⟨A[i], by rw [List.getElem?_eq_getElem il]⟩
  -- an arw of a least cover has some spot
  have hs : ∃ x, 0 < iw op W x p := by
    rcases Classical.em (∃ x, 0 < iw op W x p) with z | z
    · exact z
    · exfalso
      have hl := hC.min (C.erase i) fun x => by
        obtain ⟨r, hr, h1⟩ := hC.cov x
        obtain ⟨k, hk, hk2⟩ := mem_arcsOf.mp hr
        have e : k ≠ i := fun e => by
          rw [e, hp] at hk2; cases hk2
          exact z ⟨x, h1⟩
        exact ⟨r, mem_arcsOf.mpr ⟨k, (List.mem_erase_of_ne e).mpr hk, hk2⟩, h1⟩
      rw [List.length_erase_of_mem hi] at hl
      have := List.length_pos_of_mem hi; omega
  obtain ⟨x, hx⟩ := hs
  have h1 := (iw_pos hW).mp hx
  have mx := mod_b (a := x - p.1) hW
  have p2 : 0 < p.2 := by omega
  unfold cw
  simp only [hp]
  rw [if_neg (by omega)]
  have nd := List.Nodup.length_le_of_subset hv.2 (l₂ := List.range A.length) (fun j hj => List.mem_range.mpr (hv.1 j hj))
  rw [List.length_range] at nd
  exact cwGo_min hW hw hC hi hp (by omega) (fun _ => p2) A.length 0 (fun _ => p.2) [i] rfl (fun r hr => by omega) (fun r hr => by omega) (fun r hr => by omega) rfl (by omega)
/-- the first of the shortest covers found -/
def fiStep (op : Bool) (W : Int) (A : List (Int × Int)) (b : Option (List Nat)) (i : Nat) : Option (List Nat) := match cw op W A i with
  | none => b
  | some f => match b with
    | none => some f
    | some g => if f.length < g.length then some f else some g
def fiI (op : Bool) (W : Int) (A : List (Int × Int)) : Option (List Nat) := (List.range A.length).foldl (fiStep op W A) none
theorem fi_fold {op : Bool} {W : Int} {A : List (Int × Int)} : ∀ (is : List Nat) (b : Option (List Nat)),
    (∀ r, is.foldl (fiStep op W A) b = some r → b = some r ∨ ∃ i ∈ is, cw op W A i = some r) ∧ (∀ f, (b = some f ∨ ∃ i ∈ is, cw op W A i = some f) → ∃ r, is.foldl (fiStep op W A) b = some r ∧ r.length ≤ f.length)
  | [], b => ⟨fun r h => .inl h, fun f h => by
    rcases h with h | ⟨i, hi, _⟩
    · exact ⟨f, h, Nat.le_refl _⟩
    · simp at hi⟩
  | i :: is, b => by
    obtain ⟨h1, h2⟩ := fi_fold (op := op) (W := W) (A := A) is (fiStep op W A b i)
    refine ⟨fun r h => ?_, fun f h => ?_⟩
    · rw [List.foldl_cons] at h
      rcases h1 r h with e | ⟨j, hj, e⟩
      · unfold fiStep at e
        split at e
        · exact .inl e
        · rename_i g hg
          split at e
          · cases e; exact .inr ⟨i, by simp, hg⟩
          · split at e
            · cases e; exact .inr ⟨i, by simp, hg⟩
            · exact .inl e
      · exact .inr ⟨j, by simp [hj], e⟩
    · rw [List.foldl_cons]
      rcases h with h | ⟨j, hj, h⟩
      · obtain ⟨g, hg, hl⟩ : ∃ g, fiStep op W A b i = some g ∧ g.length ≤ f.length := by
          unfold fiStep
          rw [h]
          split
          · exact ⟨f, rfl, Nat.le_refl _⟩
          · dsimp only
            split
            · exact ⟨_, rfl, by omega⟩
            · exact ⟨_, rfl, Nat.le_refl _⟩
        obtain ⟨r, h3, h4⟩ := h2 g (.inl hg)
        exact ⟨r, h3, by omega⟩
      · rcases List.mem_cons.mp hj with rfl | hj
        · obtain ⟨g, hg, hl⟩ : ∃ g, fiStep op W A b j = some g ∧ g.length ≤ f.length := by
            unfold fiStep
            rw [h]
            dsimp only
            split
            · exact ⟨f, rfl, Nat.le_refl _⟩
            · split
              · exact ⟨_, rfl, Nat.le_refl _⟩
              · exact ⟨_, rfl, by omega⟩
          obtain ⟨r, h3, h4⟩ := h2 g (.inl hg)
          exact ⟨r, h3, by omega⟩
        · exact h2 f (.inr ⟨j, hj, h⟩)
theorem fi_some {op : Bool} {W : Int} (hW : 0 < W) {A : List (Int × Int)} (hw : ∀ p ∈ A, p.2 ≤ W) {r : List Nat} (h : fiI op W A = some r) : Cov op W (arcsOf A r) ∧ (∀ i ∈ r, i < A.length) ∧ r ≠ [] ∧ ∀ C, Cov op W (arcsOf A C) → r.length ≤ C.length := by
  obtain ⟨h1, h2⟩ := fi_fold (op := op) (W := W) (A := A) (List.range A.length) none
  have s : Cov op W (arcsOf A r) ∧ (∀ i ∈ r, i < A.length) ∧ r ≠ [] := by
    rcases h1 r h with e | ⟨i, _, e⟩
    · cases e
    · exact cw_sound hW hw e
  refine ⟨s.1, s.2.1, s.2.2, fun C hC => ?_⟩
  obtain ⟨C0, m0, l0⟩ := minCov_ex C.length C (Nat.le_refl _) hC
  obtain ⟨i, hi⟩ : ∃ i, i ∈ C0 := by
    obtain ⟨p, hp, _⟩ := m0.cov 0
    obtain ⟨i, hi, _⟩ := mem_arcsOf.mp hp
    exact ⟨i, hi⟩
  obtain ⟨f, hf, lf⟩ := cw_min hW hw m0 hi
  obtain ⟨r', h3, h4⟩ := h2 f (.inr ⟨i, List.mem_range.mpr (m0.valid.1 i hi), hf⟩)
  have : r' = r := by
    have e : some r' = some r := h3.symm.trans h
    exact Option.some.inj e
  rw [this] at h4
  omega
theorem fi_ex {op : Bool} {W : Int} (hW : 0 < W) {A : List (Int × Int)} (hw : ∀ p ∈ A, p.2 ≤ W) (h : Cov op W A) : ∃ r, fiI op W A = some r := by
  have hc : Cov op W (arcsOf A (List.range A.length)) := fun x => by
    obtain ⟨p, hp, h1⟩ := h x
    obtain ⟨i, hi⟩ := List.getElem?_of_mem hp
    exact ⟨p, mem_arcsOf.mpr ⟨i, List.mem_range.mpr (List.getElem?_eq_some_iff.mp hi).1, hi⟩, h1⟩
  obtain ⟨C0, m0, l0⟩ := minCov_ex _ _ (Nat.le_refl _) hc
  obtain ⟨i, hi⟩ : ∃ i, i ∈ C0 := by
    obtain ⟨p, hp, _⟩ := m0.cov 0
    obtain ⟨i, hi, _⟩ := mem_arcsOf.mp hp
    exact ⟨i, hi⟩
  obtain ⟨f, hf, lf⟩ := cw_min hW hw m0 hi
  obtain ⟨h1, h2⟩ := fi_fold (op := op) (W := W) (A := A) (List.range A.length) none
  obtain ⟨r', h3, h4⟩ := h2 f (.inr ⟨i, List.mem_range.mpr (m0.valid.1 i hi), hf⟩)
  exact ⟨r', h3⟩
theorem cov_sub {op : Bool} {W : Int} {A B : List (Int × Int)} (h : Cov op W A) (hs : ∀ p ∈ A, p ∈ B) : Cov op W B := fun x => let ⟨p, hp, h1⟩ := h x; ⟨p, hs p hp, h1⟩
/-! ### covers: what the program computes -/
theorem dv200 {N : Int} (h0 : 0 < N) (hl : N < 2 ^ 200) (r : Int) : divOk r N = true := divOk_of (by omega) (by have := int_log (i := N) (k := 200) (by omega) (by omega) (by decide); omega)
theorem findV_ints (k : Int) : ∀ xs : List Int, k ∈ xs → findV (.int k) (xs.map V.int) = some (xs.idxOf k)
  | [], h => by simp at h
  | x :: xs, h => by
    unfold findV
    rw [List.map_cons]
    dsimp only
    by_cases e : x = k
    · subst e; simp [eqV, List.idxOf_cons]
    · have h2 : k ∈ xs := by
        rcases List.mem_cons.mp h with z | z
        · exact absurd z.symm e
        · exact z
      rw [findV_ints k xs h2]
      have e' : (x == k) = false := by simpa using e
      simp [eqV, e, List.idxOf_cons, e']
theorem toVs_ints' : ∀ xs : List Int, toVs (xs.map D.int) = some (xs.map V.int)
  | [] => rfl
  | x :: xs => by simp [toVs, toV, toVs_ints' xs]
theorem index_ints {xs : List Int} {k : Int} (h : k ∈ xs) (m : Mu) : fIndex (.lst (xs.map .int)) [.int k] m = .ok (.int (xs.idxOf k : Nat)) m := by
  unfold fIndex
  have q : (seqL m (.lst (xs.map D.int))).bind toVs = some (xs.map V.int) := by rw [seqL_lst, Option.bind_some, toVs_ints']
  simp only [q, toV, findV_ints k xs h]
theorem gNe_lnil {m : Mu} {x : D} {ds : List D} {n : Nat} (hx : seqL m x = some ds) (h : ∀ d ∈ ds, plP n d) (hn : n ≤ 60 := by decide) : gNe x (.lst []) m = .ok (.bl (!decide (ds = []))) m := by
  have g := gEq_lnil hx h hn
  have sc : scEq x (.lst []) = none := by
    cases x <;> first | rfl | (simp [seqL] at hx)
  unfold gEq orD gEqS at g
  unfold gNe orD gEqS
  rw [sc] at g ⊢
  simp only [gEqD] at g ⊢
  split at g
  · rename_i p q e1 e2
    split at g
    · rename_i z; rw [if_pos z]; simp only [Bool.false_xor, Bool.true_xor] at g ⊢
      simp only [Res.ok.injEq, D.bl.injEq, and_true] at g
      rw [g]
    · cases g
  · cases g
theorem tnD_plP (p : Int × Int) : plP 2 (tnD p) := by
  intro d hd
  simp only [List.mem_cons, List.not_mem_nil, or_false] at hd
  rcases hd with rfl | rfl <;> trivial
/-! ### barred and capped -/
def barI (N v : Int) (t : Int × Int) : Int × Int := ((t.2 + (t.1 - v)) % N, if t.1 - v < 0 then -1 else if N - 2 * (t.1 - v) > 0 then N - 2 * (t.1 - v) else 0)
def prtI (v : Int) (t : Int × Int) : Int := if t.1 - v > 0 then t.1 - v else 0
def capI (N v : Int) (t : Int × Int) : Int × Int := ((t.2 + prtI v t) % N, if N - 2 * prtI v t > -1 then N - 2 * prtI v t else -1)
/-! ### whether arcs cover the cycle -/
def covB (op : Bool) (W : Int) (A : List (Int × Int)) : Bool := !decide (A.filter (someF op) = []) && (A.filter (someF op)).all fun p => (A.filter (someF op)).any fun q => decide (0 < iw op W ((p.1 + p.2) % W) q)
theorem covB_iff {op : Bool} {W : Int} (hW : 0 < W) {A : List (Int × Int)} (hw : ∀ p ∈ A, p.2 ≤ W) : covB op W A = true ↔ Cov op W A := by
  rw [cov_ends hW hw]
  unfold covB
  rw [Bool.and_eq_true, Bool.not_eq_true', decide_eq_false_iff_not, List.all_eq_true]
  refine and_congr_right fun _ => forall_congr' fun p => forall_congr' fun _ => ?_
  rw [List.any_eq_true]
  simp only [decide_eq_true_eq]
/-! ### few arcs -/
theorem natInts_below (n : Nat) : ∀ xs : List Nat, belows n (xs.map fun k : Nat => D.int (k : Int)) = true
  | [] => rfl
  | x :: xs => by simp [belows, below, natInts_below n xs]
def resI (r : Option (List Nat)) : D := match r with
  | some r => .lst (r.map fun k : Nat => D.int (k : Int))
  | none => .non
theorem few_e {AS : List D} {W : Int} {op : Bool} {R : D} {m : Mu} {S : DS} (e1 : S [some (.lst AS), some (.int W), some (.bl op), none, none, none] m = .rt R m) : dFn 6 S [.lst AS, .int W, .bl op] m = .ok R m := by
  simp only [dFn_ap, env0, List.map_cons, List.map_nil, List.length_cons, List.length_nil, Nat.zero_add, Nat.reduceAdd, Nat.reduceSub, List.reduceReplicate, List.cons_append, List.nil_append, e1]
theorem few_f {AS : List D} {W : Int} {op : Bool} {R : D} {y4 y5 : Option D} {m : Mu} {I : DA} {B : DS} {RR : List D} (it : I [some (.lst AS), some (.int W), some (.bl op), some .non, none, none] m = .ok RR m)
    (h : dLoop (dName 4) B RR [some (.lst AS), some (.int W), some (.bl op), some .non, none, none] m = .nx [some (.lst AS), some (.int W), some (.bl op), some R, y4, y5] m) : (dFor I (dName 4) B) [some (.lst AS), some (.int W), some (.bl op), some .non, none, none] m = .nx [some (.lst AS), some (.int W), some (.bl op), some R, y4, y5] m := by
  simp [it, h]
theorem few_g {AS : List D} {W : Int} {op : Bool} {R : D} {y4 y5 : Option D} {m : Mu} : (dRet (dVar 3)) [some (.lst AS), some (.int W), some (.bl op), some R, y4, y5] m = .rt R m := by
  simp
theorem few_h {AS : List D} {W : Int} {op : Bool} {m : Mu} : (dSet 3 (dC .non)) [some (.lst AS), some (.int W), some (.bl op), none, none, none] m = .nx [some (.lst AS), some (.int W), some (.bl op), some .non, none, none] m := by
  simp
theorem few_i {AS : List D} {W : Int} {op : Bool} {R : D} {y4 y5 : Option D} {m : Mu} {I : DA} {B : DS} {RR : List D} (it : I [some (.lst AS), some (.int W), some (.bl op), some .non, none, none] m = .ok RR m)
    (h : dLoop (dName 4) B RR [some (.lst AS), some (.int W), some (.bl op), some .non, none, none] m = .nx [some (.lst AS), some (.int W), some (.bl op), some R, y4, y5] m) : (dSeq (dSet 3 (dC .non)) (dSeq (dFor I (dName 4) B) (dRet (dVar 3)))) [some (.lst AS), some (.int W), some (.bl op), none, none, none] m = .rt R m := (dSeq_nx few_h).trans ((dSeq_nx (few_f it h)).trans few_g)
theorem few_j {AS : List D} {W : Int} {op : Bool} {R : D} {y4 y5 : Option D} {m : Mu} {I : DA} {B : DS} {RR : List D} (it : I [some (.lst AS), some (.int W), some (.bl op), some .non, none, none] m = .ok RR m)
    (h : dLoop (dName 4) B RR [some (.lst AS), some (.int W), some (.bl op), some .non, none, none] m = .nx [some (.lst AS), some (.int W), some (.bl op), some R, y4, y5] m) : dFn 6 (dSeq (dSet 3 (dC .non)) (dSeq (dFor I (dName 4) B) (dRet (dVar 3)))) [.lst AS, .int W, .bl op] m = .ok R m := few_e (few_i it h)
theorem few_len {AS : List D} {W AL : Int} {op : Bool} {m : Mu} (gl : gLen [.lst AS] m = .ok (.int AL) m) (l1 : -(2 ^ 62) ≤ AL) (l2 : AL < 2 ^ 62) : dItR1 (dCons (dFun gLen (dCons (dVar 0) dNil)) dNil) [some (.lst AS), some (.int W), some (.bl op), some .non, none, none] m = .ok (rngD 0 AL.toNat) m := dItR1_of (by simp [-gLen_ap, gl]) l1 l2
/-- the first arc that has all spots, else a shortest cover -/
def fbI (N : Int) (A : List (Int × Int)) : Option (List Nat) := match A.findIdx? fun p => decide (p.2 < 0) with
  | some j => some [j]
  | none => fiI true N A
theorem glue_rt {A B C : DS} {e e1 : En} {m m1 m2 : Mu} {v : D} (h1 : A e m = .nx e1 m1) (h2 : B e1 m1 = .rt v m2) : dSeq A (dSeq B C) e m = .rt v m2 := by simp [h1, h2]
theorem glue_nx {A B C : DS} {e e1 e2 : En} {m m1 m2 m3 : Mu} {v : D} (h1 : A e m = .nx e1 m1) (h2 : B e1 m1 = .nx e2 m2) (h3 : C e2 m2 = .rt v m3) : dSeq A (dSeq B C) e m = .rt v m3 := by simp [h1, h2, h3]
theorem glue_fn {S : DS} {a b d v : D} {m m1 : Mu} (h : S [some a, some b, some d, none, none, none] m = .rt v m1) : dFn 6 S [a, b, d] m = .ok v m1 := by simp [env0, h]
theorem glue_ge {G : DG} {B : DS} {BS : List D} {x0 x1 x2 x4 x5 : Option D} {m : Mu} {r : RS} (h : dLoopG G B (fun _ => True) ((List.range BS.length).zipWith (fun (k : Nat) d => D.tup [.int (k : Nat), d]) BS) [x0, x1, x2, some (.lst BS), x4, x5] m = r) : dForX (dItGE (dCons (dVar 3) dNil)) G B [x0, x1, x2, some (.lst BS), x4, x5] m = r := by
  have e : dItGE (dCons (dVar 3) dNil) [x0, x1, x2, some (.lst BS), x4, x5] m = .ok ((List.range BS.length).zipWith (fun (k : Nat) d => D.tup [.int (k : Nat), d]) BS, fun _ => True) m := by
    simp [seqGL]
  unfold dForX
  rw [e]
  exact h
theorem loopG_rt {G : DG} {B : DS} {d : D} {ds : List D} {e e1 : En} {m m2 : Mu} {v : D} (h1 : G d e = some e1) (h2 : B e1 m = .rt v m2) : dLoopG G B (fun _ => True) (d :: ds) e m = .rt v m2 := by
  rw [dLoopG]
  simp only [if_true, h1, h2]
theorem loopG_nx {G : DG} {B : DS} {d : D} {ds : List D} {e e1 e2 : En} {m m2 : Mu} (h1 : G d e = some e1) (h2 : B e1 m = .nx e2 m2) : dLoopG G B (fun _ => True) (d :: ds) e m = dLoopG G B (fun _ => True) ds e2 m2 := by
  rw [dLoopG]
  simp only [if_true, h1, h2]
theorem fb_nm (x0 x1 x2 x3 x4 x5 : Option D) (k : Int) (p : D) : dTupG 2 (dGcons (dName 4) (dGcons (dName 5) dGnil)) (D.tup [.int k, p]) [x0, x1, x2, x3, x4, x5] = some [x0, x1, x2, x3, some (.int k), some p] := by simp
theorem glue_call {F : DFn} {x0 x2 y4 y5 : Option D} {a b v : D} {m : Mu} (h : F [a, b, .bl true] m = .ok v m) : (dRet (dFun (padF 3 [] F) (dCons (dVar 3) (dCons (dVar 1) (dCons (dC (.bl true)) dNil))))) [x0, some b, x2, some a, y4, y5] m = .rt v m := by simp [h]
theorem glue_bar {F : DFn} {a b d v : D} {y4 y5 : Option D} {m : Mu} (h : F [a, b, d] m = .ok v m) : (dSet 3 (dFun (padF 3 [] F) (dCons (dVar 0) (dCons (dVar 1) (dCons (dVar 2) dNil))))) [some a, some b, some d, none, y4, y5] m = .nx [some a, some b, some d, some v, y4, y5] m := by simp [h]
/-! ### what covers say of tents -/
/-- at each spot of a cycle f times as fine, one tent is below a level -/
def BarsAll (f N v : Int) (ts : List (Int × Int)) : Prop := ∀ x : Int, ∃ t ∈ ts, f * t.1 - dst (f * N) (x - f * t.2) < f * v
/-- .. one tent is not above a level -/
def CapAll (f N v : Int) (ts : List (Int × Int)) : Prop := ∀ x : Int, ∃ t ∈ ts, f * t.1 - dst (f * N) (x - f * t.2) ≤ f * v
theorem fine_mod {f N y r : Int} (hf : 0 < f) (hN : 0 < N) (r0 : 0 ≤ r) (r1 : r < f) : (f * y + r) % (f * N) = f * (y % N) + r := by
  have m := mod_b (a := y) hN
  have e := Int.emod_add_mul_ediv y N
  have b1 : f * (y % N) + r < f * N := by
    have : f * (y % N) ≤ f * (N - 1) := Int.mul_le_mul_of_nonneg_left (by omega) (by omega)
    rw [Int.mul_sub, Int.mul_one] at this; omega
  have b0 : 0 ≤ f * (y % N) := Int.mul_nonneg (by omega) m.1
  have : f * y + r = (f * (y % N) + r) + (f * N) * (y / N) := by
    have h : f * y = f * (y % N) + f * (N * (y / N)) := by rw [← Int.mul_add, e]
    rw [h, Int.mul_assoc]; omega
  rw [this, Int.add_mul_emod_self_left, Int.emod_eq_of_lt (by omega) b1]
theorem dst_ge {W y p : Int} (h : p ≤ y % W) (h2 : y % W ≤ W - p) : p ≤ dst W y := by unfold dst; split <;> omega
theorem dst_gt {W y p : Int} (h : p < y % W) (h2 : y % W < W - p) : p < dst W y := by unfold dst; split <;> omega
theorem dst_lo {W y p : Int} (h : p < dst W y) : p < y % W ∧ y % W < W - p := by unfold dst at h; split at h <;> omega
theorem dst_lo' {W y p : Int} (h : p ≤ dst W y) : p ≤ y % W ∧ y % W ≤ W - p := by unfold dst at h; split at h <;> omega
theorem bars_iff {f N v : Int} (hf : 0 < f) (hN : 0 < N) {ts : List (Int × Int)} : BarsAll f N v ts ↔ (∃ t ∈ ts, (barI N v t).2 < 0) ∨ Cov true N (ts.map (barI N v)) := by
  have neg : ∀ t : Int × Int, (barI N v t).2 < 0 ↔ t.1 < v := fun t => by
    unfold barI; simp only
    split
    · omega
    · split <;> omega
  constructor
  · intro h
    rcases Classical.em (∃ t ∈ ts, (barI N v t).2 < 0) with z | z
    · exact .inl z
    · right
      intro X
      obtain ⟨t, ht, h1⟩ := h (f * X)
      have tv : ¬ t.1 < v := fun k => z ⟨t, ht, (neg t).mpr k⟩
      refine ⟨barI N v t, List.mem_map.mpr ⟨t, ht, rfl⟩, ?_⟩
      rw [← Int.mul_sub, dst_mul hN hf] at h1
      have h2 : f * (t.1 - v) < f * dst N (X - t.2) := by rw [Int.mul_sub]; omega
      have h3 := Int.lt_of_mul_lt_mul_left h2 (by omega)
      have h4 := dst_lo h3
      rw [iw_pos hN]
      unfold barI
      simp only
      rw [if_neg (by omega), if_pos (by omega)]
      have e : (X - (t.2 + (t.1 - v)) % N) % N = (X - t.2) % N - (t.1 - v) := by
        rw [Int.sub_emod_emod, show X - (t.2 + (t.1 - v)) = (X - t.2) - (t.1 - v) by omega, ← Int.emod_sub_emod, Int.emod_eq_of_lt (by omega) (by omega)]
      rw [e]
      exact ⟨by omega, fun _ => by omega⟩
  · intro h x
    rcases h with ⟨t, ht, h1⟩ | h
    · refine ⟨t, ht, ?_⟩
      have h2 := (neg t).mp h1
      have h3 := dst_nn (N := f * N) (Int.mul_pos hf hN) (x - f * t.2)
      have h4 : f * t.1 < f * v := Int.mul_lt_mul_of_pos_left h2 hf
      omega
    · obtain ⟨p, hp, h1⟩ := h (x / f)
      obtain ⟨t, ht, rfl⟩ := List.mem_map.mp hp
      refine ⟨t, ht, ?_⟩
      have h2 := (iw_pos hN).mp h1
      have mr := mod_b (a := x) hf
      have er := Int.emod_add_mul_ediv x f
      obtain ⟨X, hX⟩ : ∃ X, x / f = X := ⟨_, rfl⟩
      obtain ⟨r, hr⟩ : ∃ r, x % f = r := ⟨_, rfl⟩
      rw [hX] at h2 er
      rw [hr] at mr er
      unfold barI at h2
      simp only [forall_const] at h2
      have tv : ¬ t.1 - v < 0 := fun k => by rw [if_pos k] at h2; have := mod_b (a := X - (t.2 + (t.1 - v)) % N) hN; omega
      rw [if_neg tv] at h2
      have wp : N - 2 * (t.1 - v) > 0 := by
        rcases Classical.em (N - 2 * (t.1 - v) > 0) with k | k
        · exact k
        · rw [if_neg k] at h2; omega
      rw [if_pos wp, Int.sub_emod_emod] at h2
      have my := mod_b (a := X - t.2) hN
      have e : (X - t.2) % N = (X - (t.2 + (t.1 - v))) % N + (t.1 - v) := by
        rw [show X - t.2 = (X - (t.2 + (t.1 - v))) + (t.1 - v) by omega, ← Int.emod_add_emod, Int.emod_eq_of_lt (by omega) (by omega)]
      have ex : (x - f * t.2) % (f * N) = f * ((X - t.2) % N) + r := by
        rw [← fine_mod hf hN mr.1 mr.2]; congr 1; rw [Int.mul_sub]; omega
      have g1 : f * (t.1 - v) < dst (f * N) (x - f * t.2) := by
        refine dst_gt ?_ ?_
        · rw [ex]
          have : f * (t.1 - v + 1) ≤ f * ((X - t.2) % N) := Int.mul_le_mul_of_nonneg_left (by omega) (by omega)
          rw [Int.mul_add, Int.mul_one] at this; omega
        · rw [ex]
          have : f * ((X - t.2) % N) ≤ f * (N - (t.1 - v) - 1) := Int.mul_le_mul_of_nonneg_left (by omega) (by omega)
          rw [Int.mul_sub, Int.mul_one, Int.mul_sub] at this; omega
      rw [Int.mul_sub] at g1; omega
theorem cap_iff {f N v : Int} (hf : 2 ≤ f) (hN : 0 < N) {ts : List (Int × Int)} : CapAll f N v ts ↔ Cov false N (ts.map (capI N v)) := by
  have hf0 : 0 < f := by omega
  have pr : ∀ t : Int × Int, 0 ≤ prtI v t ∧ t.1 - v ≤ prtI v t ∧ (prtI v t = 0 ∨ prtI v t = t.1 - v) := fun t => by unfold prtI; split <;> omega
  -- a tent that is not above the level
  have key : ∀ (t : Int × Int) (x : Int), f * t.1 - dst (f * N) (x - f * t.2) ≤ f * v ↔ f * prtI v t ≤ dst (f * N) (x - f * t.2) := fun t x => by
    have h := pr t
    have nn := dst_nn (N := f * N) (Int.mul_pos hf0 hN) (x - f * t.2)
    have e : f * (t.1 - v) = f * t.1 - f * v := Int.mul_sub _ _ _
    rcases h.2.2 with z | z
    · rw [z, Int.mul_zero]
      have : f * (t.1 - v) ≤ f * 0 := Int.mul_le_mul_of_nonneg_left (by omega) (by omega)
      rw [Int.mul_zero] at this; omega
    · rw [z]; omega
  constructor
  · intro h X
    obtain ⟨t, ht, h1⟩ := h (f * X + 1)
    rw [key] at h1
    refine ⟨capI N v t, List.mem_map.mpr ⟨t, ht, rfl⟩, ?_⟩
    have h2 := dst_lo' h1
    have ex : (f * X + 1 - f * t.2) % (f * N) = f * ((X - t.2) % N) + 1 := by
      rw [← fine_mod hf0 hN (by omega) (by omega)]; congr 1; rw [Int.mul_sub]; omega
    rw [ex] at h2
    obtain ⟨Y, hY⟩ : ∃ Y, (X - t.2) % N = Y := ⟨_, rfl⟩
    obtain ⟨p, hp⟩ : ∃ p, prtI v t = p := ⟨_, rfl⟩
    have h := pr t
    rw [hY, hp] at h2
    rw [hp] at h
    have y1 : p ≤ Y := by
      rcases Int.lt_or_le Y p with z | z
      · have : f * (Y + 1) ≤ f * p := Int.mul_le_mul_of_nonneg_left (by omega) (by omega)
        rw [Int.mul_add, Int.mul_one] at this; omega
      · exact z
    have y2 : Y < N - p := by
      rcases Int.lt_or_le Y (N - p) with z | z
      · exact z
      · have : f * (N - p) ≤ f * Y := Int.mul_le_mul_of_nonneg_left z (by omega)
        rw [Int.mul_sub] at this; omega
    rw [iw_pos hN]
    unfold capI
    simp only [Bool.false_eq_true, false_implies, and_true]
    rw [hp, if_pos (by omega), Int.sub_emod_emod]
    have e : (X - (t.2 + p)) % N = Y - p := by
      rw [show X - (t.2 + p) = (X - t.2) - p by omega, ← Int.emod_sub_emod, hY, Int.emod_eq_of_lt (by omega) (by omega)]
    rw [e]; omega
  · intro h x
    obtain ⟨p, hp, h1⟩ := h (x / f)
    obtain ⟨t, ht, rfl⟩ := List.mem_map.mp hp
    refine ⟨t, ht, ?_⟩
    rw [key]
    have h2 := ((iw_pos hN).mp h1).1
    have mr := mod_b (a := x) hf0
    have er := Int.emod_add_mul_ediv x f
    obtain ⟨X, hX⟩ : ∃ X, x / f = X := ⟨_, rfl⟩
    obtain ⟨r, hr⟩ : ∃ r, x % f = r := ⟨_, rfl⟩
    rw [hX] at h2 er
    rw [hr] at mr er
    unfold capI at h2
    simp only at h2
    obtain ⟨q, hq⟩ : ∃ p, prtI v t = p := ⟨_, rfl⟩
    have hpr := pr t
    rw [hq] at h2 hpr ⊢
    have m1 := mod_b (a := X - (t.2 + q) % N) hN
    have wp : N - 2 * q > -1 := by
      rcases Classical.em (N - 2 * q > -1) with k | k
      · exact k
      · rw [if_neg k] at h2; omega
    rw [if_pos wp, Int.sub_emod_emod] at h2
    rw [Int.sub_emod_emod] at m1
    have e : (X - t.2) % N = (X - (t.2 + q)) % N + q := by
      rw [show X - t.2 = (X - (t.2 + q)) + q by omega, ← Int.emod_add_emod, Int.emod_eq_of_lt (by omega) (by omega)]
    have ex : (x - f * t.2) % (f * N) = f * ((X - t.2) % N) + r := by
      rw [← fine_mod hf0 hN mr.1 mr.2]; congr 1; rw [Int.mul_sub]; omega
    refine dst_ge ?_ ?_
    · rw [ex]
      have : f * q ≤ f * ((X - t.2) % N) := Int.mul_le_mul_of_nonneg_left (by omega) (by omega)
      omega
    · rw [ex]
      have : f * ((X - t.2) % N) ≤ f * (N - q - 1) := Int.mul_le_mul_of_nonneg_left (by omega) (by omega)
      rw [Int.mul_sub, Int.mul_one, Int.mul_sub] at this; omega
theorem bar_le {N v : Int} (hN : 0 < N) (t : Int × Int) : (barI N v t).2 ≤ N := by
  unfold barI; simp only
  split
  · omega
  · split <;> omega
theorem cap_le {N v : Int} (hN : 0 < N) (t : Int × Int) : (capI N v t).2 ≤ N := by
  unfold capI prtI; simp only
  split <;> split <;> omega
/-! ### widths of papers -/
/-! ### names chosen -/
theorem findV_strs (k : Str) : ∀ xs : List Str, k ∈ xs → findV (.str k) (xs.map V.str) = some (xs.idxOf k)
  | [], h => by simp at h
  | x :: xs, h => by
    unfold findV
    rw [List.map_cons]
    dsimp only
    by_cases e : x = k
    · subst e; simp [eqV, List.idxOf_cons]
    · have h2 : k ∈ xs := by
        rcases List.mem_cons.mp h with z | z
        · exact absurd z.symm e
        · exact z
      rw [findV_strs k xs h2]
      have e' : (x == k) = false := by simpa using e
      simp [eqV, e, List.idxOf_cons, e']
theorem toVs_strs' : ∀ xs : List Str, toVs (xs.map D.str) = some (xs.map V.str)
  | [] => rfl
  | x :: xs => by simp [toVs, toV, toVs_strs' xs]
theorem index_strs {xs : List Str} {k : Str} (h : k ∈ xs) (m : Mu) : fIndex (.lst (xs.map .str)) [.str k] m = .ok (.int (xs.idxOf k : Nat)) m := by
  unfold fIndex
  have q : (seqL m (.lst (xs.map D.str))).bind toVs = some (xs.map V.str) := by rw [seqL_lst, Option.bind_some, toVs_strs']
  simp only [q, toV, findV_strs k xs h]
theorem in_strs (x : Str) (xs : List Str) (m : Mu) : gIn (.str x) (.lst (xs.map .str)) m = .ok (.bl (decide (x ∈ xs))) m := by
  have q : (seqA m (.lst (xs.map D.str))).bind toVs = some (xs.map V.str) := by
    have : seqA m (.lst (xs.map D.str)) = some (xs.map D.str) := rfl
    rw [this, Option.bind_some, toVs_strs']
  have q2 := toVs_strs' xs
  simp [gIn, toV, q, q2, inV_str]
/-- what a paper's names may hold beside names -/
def NamD (d : D) : Prop := (∃ s, d = .str s) ∨ d = .non ∨ (∃ i, d = .int i) ∨ (∃ xs, d = .lst xs) ∨ ∃ xs, d = .tup xs
def okW (nms : List Str) : D → Bool
  | .str s => decide (s ∈ nms)
  | _ => false
/-! ### lights that bar -/
def prR (P : Nat) (q : Int × Int) : Rat × Rat := (Rat.divInt q.1 P, Rat.divInt q.2 P)
/-- at each meeting one of some lights has less room than a level, in halves of P parts -/
def BarsQ (P : Nat) (V : Int) (qs : List (Int × Int)) : Prop := ∀ x : Int, ∃ q ∈ qs, 2 * q.1 - dst (2 * (P : Int)) (x + 2 * q.2) < 2 * V
def CapsQ (P : Nat) (V : Int) (qs : List (Int × Int)) : Prop := ∀ x : Int, ∃ q ∈ qs, 2 * q.1 - dst (2 * (P : Int)) (x + 2 * q.2) ≤ 2 * V
theorem prs_den {P : Nat} (hP : 0 < P) {qs : List (Int × Int)} {V : List Int} : ∀ r ∈ prs (qs.map (prR P)) ++ V.map (fun v => Rat.divInt v P), r.den ∣ P := by
  intro r hr
  rcases List.mem_append.mp hr with hr | hr
  · unfold prs at hr
    rw [List.mem_flatMap] at hr
    obtain ⟨p, hp, hr⟩ := hr
    obtain ⟨q, _, rfl⟩ := List.mem_map.mp hp
    simp only [prR, List.mem_cons, List.not_mem_nil, or_false] at hr
    rcases hr with rfl | rfl
    · exact den_dvd hP rfl
    · exact den_dvd hP rfl
  · obtain ⟨v, _, rfl⟩ := List.mem_map.mp hr
    exact den_dvd hP rfl
/-- the grid, seen on the cycle of 2 P parts -/
theorem grid_scale {P : Nat} (hP : 0 < P) {qs : List (Int × Int)} {V : List Int} {M : Nat} (hM : M = cbot (prs (qs.map (prR P)) ++ V.map (fun v => Rat.divInt v P))) :
    ∃ f : Int, 0 < f ∧ (P : Int) = f * M ∧ 0 < M ∧ (∀ v ∈ V, f * unt (Rat.divInt v P) (2 * M) = 2 * v) ∧ ∀ q ∈ qs, f * unt (Rat.divInt q.1 P) (2 * M) = 2 * q.1 ∧ ∀ x, dst (f * (2 * M)) (x - f * ((-unt (Rat.divInt q.2 P) (2 * M)) % (2 * M))) = dst (2 * (P : Int)) (x + 2 * q.2) := by
  have hd := prs_den hP (qs := qs) (V := V)
  have hdv := cbot_dvd hd
  have dd := den_dvd_cbot (prs (qs.map (prR P)) ++ V.map (fun v => Rat.divInt v P))
  rw [← hM] at hdv dd
  have M0 : 0 < M := by rw [hM]; exact cbot_pos _
  obtain ⟨k, hk⟩ := hdv
  have k0 : 0 < k := by
    rcases Nat.eq_zero_or_pos k with z | z
    · rw [z] at hk; omega
    · exact z
  have hPk : (P : Int) = (k : Int) * M := by rw [hk, Int.natCast_mul, Int.mul_comm]
  have sc : ∀ S : Int, (Rat.divInt S P).den ∣ M → (k : Int) * unt (Rat.divInt S P) (2 * M) = 2 * S := fun S h => (unt_scale (by omega) M0 hPk rfl h).1
  have inq : ∀ q ∈ qs, Rat.divInt q.1 P ∈ prs (qs.map (prR P)) ++ V.map (fun v => Rat.divInt v P) ∧ Rat.divInt q.2 P ∈ prs (qs.map (prR P)) ++ V.map (fun v => Rat.divInt v P) := fun q hq => by
    constructor <;>
    · refine List.mem_append.mpr (.inl ?_)
      unfold prs
      rw [List.mem_flatMap]
      exact ⟨prR P q, List.mem_map.mpr ⟨q, hq, rfl⟩, by simp [prR]⟩
  refine ⟨k, by omega, hPk, M0, fun v hv => sc v (dd _ (List.mem_append.mpr (.inr (List.mem_map.mpr ⟨v, hv, rfl⟩)))), fun q hq => ⟨sc q.1 (dd _ (inq q hq).1), fun x => ?_⟩⟩
  have s2 := sc q.2 (dd _ (inq q hq).2)
  have e : (k : Int) * (2 * M) = 2 * (P : Int) := by rw [hPk]; grind
  rw [e]
  refine dst_mod _ _ ?_
  have m0 : (0 : Int) < 2 * M := by omega
  have e2 := Int.emod_add_mul_ediv (-unt (Rat.divInt q.2 P) (2 * M)) (2 * M)
  obtain ⟨R, hR⟩ : ∃ R, (-unt (Rat.divInt q.2 P) (2 * M)) % (2 * M) = R := ⟨_, rfl⟩
  obtain ⟨Q, hQ⟩ : ∃ Q, (-unt (Rat.divInt q.2 P) (2 * M)) / (2 * M) = Q := ⟨_, rfl⟩
  rw [hR, hQ] at e2
  rw [hR]
  have e3 : (k : Int) * R = -(2 * q.2) - 2 * (P : Int) * Q := by
    have : (k : Int) * R = k * (-unt (Rat.divInt q.2 P) (2 * M)) - k * (2 * M) * Q := by rw [← e2]; grind
    rw [this, e, Int.mul_neg, s2]
  rw [e3, show x - (-(2 * q.2) - 2 * (P : Int) * Q) = (x + 2 * q.2) + 2 * (P : Int) * Q by omega, Int.add_mul_emod_self_left]
theorem grid_bars {P : Nat} (hP : 0 < P) {qs : List (Int × Int)} {v : Int} {M : Nat} (hM : M = cbot (prs (qs.map (prR P)) ++ [Rat.divInt v P])) :
    ((∃ t ∈ gridT (2 * M) (qs.map (prR P)), (barI (2 * M) (unt (Rat.divInt v P) (2 * M)) t).2 < 0) ∨ Cov true (2 * M) ((gridT (2 * M) (qs.map (prR P))).map (barI (2 * M) (unt (Rat.divInt v P) (2 * M))))) ↔ BarsQ P v qs := by
  obtain ⟨f, hf, hPf, M0, hv, hq⟩ := grid_scale hP (qs := qs) (V := [v]) (M := M) (by simpa using hM)
  rw [← bars_iff hf (by omega)]
  have hv := hv v (by simp)
  unfold BarsAll BarsQ
  refine forall_congr' fun x => ?_
  unfold gridT
  rw [hv]
  constructor
  · rintro ⟨t, ht, h⟩
    rw [List.map_map] at ht
    obtain ⟨q, h1, rfl⟩ := List.mem_map.mp ht
    obtain ⟨k1, k2⟩ := hq q h1
    refine ⟨q, h1, ?_⟩
    have k3 := k2 x
    simp only [Function.comp_def, prR] at h
    rw [k1, k3] at h
    exact h
  · rintro ⟨q, h1, h⟩
    obtain ⟨k1, k2⟩ := hq q h1
    rw [List.map_map]
    refine ⟨_, List.mem_map.mpr ⟨q, h1, rfl⟩, ?_⟩
    have k3 := k2 x
    simp only [Function.comp_def, prR]
    rw [k1, k3]
    exact h
theorem unt_bd {P : Nat} {f u S : Int} (hf : 0 < f) (e : f * u = 2 * S) (h1 : -(2 ^ 100 : Nat) < S) (h2 : S < (2 ^ 100 : Nat)) : -(2 ^ 102 : Nat) < u ∧ u < (2 ^ 102 : Nat) := by
  constructor
  · rcases Int.lt_or_le (-(2 ^ 102 : Nat) : Int) u with z | z
    · exact z
    · have : f * u ≤ 1 * u := Int.mul_le_mul_of_nonpos_right (by omega) (by omega)
      omega
  · rcases Int.lt_or_le u ((2 ^ 102 : Nat) : Int) with z | z
    · exact z
    · have : 1 * u ≤ f * u := Int.mul_le_mul_of_nonneg_right (by omega) (by omega)
      omega
theorem nil_test (c : Cs) {ts : List Tg} {qs : List (Rat × Rat)} (m : Mu) : orD gEq (gEqX false [(c.kRatio, padF 2 [] (F_RatioD_eqD c), ts)] 5) (.lst (qs.map (prD c))) (.lst []) m = .ok (.bl (decide (qs = []))) m := by
  cases qs with
  | nil => rfl
  | cons q qs =>
    have g0 : gEq (.lst ((q :: qs).map (prD c))) (.lst []) m = .stuck := rfl
    have g1 := gEqX_nil (neg := false) (rows := [(c.kRatio, padF 2 [] (F_RatioD_eqD c), ts)]) (m := m) (x := .lst ((q :: qs).map (prD c))) rfl
    simp only [orD, g0, g1]
    simp
/-! ### mixed -/
theorem insert_at {α : Type} (F : α → D) (zs : List α) (y : α) {j : Nat} (h1 : j ≤ zs.length) (hl : zs.length ≤ 1000) : fInsert (zs.map F) [.int (j : Int), F y] = some ((zs.take j ++ [y] ++ zs.drop j).map F, .non) := by
  have hz : sizeLine = 16777216 := rfl
  have a1 : (0 : Int) ≤ (j : Int) := Int.natCast_nonneg j
  have a2 : (j : Int) < 2 ^ 63 := by
    have : (j : Int) < 1001 := by omega
    exact Int.lt_of_lt_of_le this (by decide)
  have a3 : (zs.map F).length < sizeLine := by rw [List.length_map, hz]; omega
  unfold fInsert
  dsimp only
  rw [if_pos ⟨a1, a2, a3⟩]
  simp [List.map_take, List.map_drop]
theorem mixed_args (c : Cs) {L : Nat} {j : Int} {x1 : Option D} {d : D} {Z : List D} {A1 A2 : Mu} (sl : seqL A1 (.loc L) = some Z) (e1' : F_w_take c [.loc 0, .int ((Z.length : Int) + 1)] A1 = .ok (.int j) A2) : (dCons (dFun (padF 2 [] (F_w_take c)) (dCons (dVar 0) (dCons (dBin gAdd (dFun gLen (dCons (dVar 2) dNil)) (dC (.int 1))) dNil))) (dCons (dVar 3) dNil)) [some (.loc 0), x1, some (.loc L), some d] A1 = .ok [.int j, d] A2 := by
  simp [sl, seqA, e1']
theorem mixed_put (c : Cs) {L : Nat} {j : Int} {x1 : Option D} {d : D} {Z Z2 : List D} {A1 A2 A3 : Mu} (t : DA)  (h1 : A1[L]? = some (.lst Z)) (h2 : A2[L]? = some (.lst Z)) (h3 : A2.set L (.lst Z2) = A3) (ht : t [some (.loc 0), x1, some (.loc L), some d] A1 = .ok [.int j, d] A2) (q : fInsert Z [.int j, d] = some (Z2, .non)) : (dDrop (dLm fInsert (dVar 2) t)) [some (.loc 0), x1, some (.loc L), some d] A1 = .nx [some (.loc 0), x1, some (.loc L), some d] A3 := by
  simp [h1, h2, h3, ht, q]
/-! ### what the law tells of lights that bar -/
theorem good_strOk {x : Str} (h : Good x) : PyData.strOk x = true := by
  unfold PyData.strOk
  rw [← Array.all_toList, List.all_eq_true]
  intro ch hch
  have := h.low ch hch
  rw [decide_eq_true_eq]; omega
theorem row_plP {r : Row} (h : Good r.nm) : plP 2 (rowD r) := by
  intro d hd
  simp only [List.mem_cons, List.not_mem_nil, or_false] at hd
  rcases hd with rfl | rfl | rfl | rfl
  · exact good_strOk h
  · trivial
  · trivial
  · trivial
def gq (r : Row) : Int × Int := (2 * r.s, 2 * (r.o + r.b))
/-! ### the widest arc in all of several -/
def inW (P s u : Int) (p : Int × Int) : Prop := (s - p.1) % P + u ≤ p.2
/-- an arc that is not the whole cycle -/
structure Okq (P : Int) (p : Int × Int) : Prop where
  a0 : 0 ≤ p.1
  a1 : p.1 < P
  w0 : 0 ≤ p.2
  w1 : p.2 < P
theorem Okq.p {P : Int} {p : Int × Int} (h : Okq P p) : Okp P p := ⟨h.a0, h.a1, h.w0, Int.le_of_lt h.w1⟩
theorem cut_mem {P a w b v : Int} {p : Int × Int} : p ∈ cutI P a w b v ↔ 0 ≤ w - (b - a) % P ∧ p.1 = b ∧ p.2 = if w - (b - a) % P < v then w - (b - a) % P else v := by
  unfold cutI
  split
  · simp; omega
  · rw [List.mem_singleton, Prod.ext_iff]
    constructor
    · rintro ⟨h1, h2⟩; exact ⟨by omega, h1, h2⟩
    · rintro ⟨_, h1, h2⟩; exact ⟨h1, h2⟩
theorem com_mem {P a w b v : Int} (hP : 0 < P) (h1 : Okq P (a, w)) (h2 : Okq P (b, v)) (p : Int × Int) : p ∈ comI P a w b v ↔ p ∈ cutI P a w b v ∨ p ∈ cutI P b v a w := by
  have w1 := h1.w1; have v1 := h2.w1
  have w0 := h1.w0; have v0 := h2.w0
  simp only at w1 v1 w0 v0
  unfold comI
  rw [if_neg (by omega), if_neg (by omega)]
  by_cases e : b = a
  · subst e
    rw [if_pos (.inr (.inr rfl))]
    have h : ∀ q, q ∈ cutI P b w b v ↔ q ∈ cutI P b v b w := fun q => by
      rw [cut_mem, cut_mem, Int.sub_self, Int.zero_emod]
      constructor
      · rintro ⟨z1, z2, z3⟩; refine ⟨by omega, z2, ?_⟩; rw [z3]; split <;> split <;> omega
      · rintro ⟨z1, z2, z3⟩; refine ⟨by omega, z2, ?_⟩; rw [z3]; split <;> split <;> omega
    split
    · rw [h]; simp
    · rw [h]; simp
  · split
    · rename_i hc
      split
      · rename_i h; rw [h]; simp
      · rename_i h
        rcases hc with z | z | z
        · exact absurd z h
        · rw [z]; simp
        · exact absurd z e
    · split
      · rw [List.mem_append]
      · rw [List.mem_append]; exact or_comm
theorem mod_rel1 {P a b s : Int} (hP : 0 < P) : ((s - a) % P ≥ (b - a) % P ∧ (s - b) % P = (s - a) % P - (b - a) % P) ∨ ((s - a) % P < (b - a) % P ∧ (s - b) % P = (s - a) % P - (b - a) % P + P) := by
  have x := mod_b (a := s - a) hP
  have d := mod_b (a := b - a) hP
  have y := mod_b (a := s - b) hP
  have e : (s - b) % P = ((s - a) % P - (b - a) % P) % P := by
    rw [← Int.sub_emod]; congr 1; omega
  by_cases h : (s - a) % P ≥ (b - a) % P
  · left; refine ⟨h, ?_⟩
    rw [e]; exact Int.emod_eq_of_lt (by omega) (by omega)
  · right; refine ⟨by omega, ?_⟩
    have e2 : ((s - a) % P - (b - a) % P) % P = ((s - a) % P - (b - a) % P + P * 1) % P := (Int.add_mul_emod_self_left _ _ _).symm
    rw [e, e2, Int.mul_one]
    exact Int.emod_eq_of_lt (by omega) (by omega)
theorem com_within {P a w b v s u : Int} (hP : 0 < P) (h1 : Okq P (a, w)) (h2 : Okq P (b, v)) (hu : 0 ≤ u) : (∃ p ∈ comI P a w b v, inW P s u p) ↔ inW P s u (a, w) ∧ inW P s u (b, v) := by
  have w1 := h1.w1; have v1 := h2.w1
  have w0 := h1.w0; have v0 := h2.w0
  have a0 := h1.a0; have a1 := h1.a1; have b0 := h2.a0; have b1 := h2.a1
  simp only at w1 v1 w0 v0 a0 a1 b0 b1
  have mo := mod_op (a := a) (b := b) hP
  have mr := mod_rel1 (a := a) (b := b) (s := s) hP
  have x := mod_b (a := s - a) hP
  have y := mod_b (a := s - b) hP
  constructor
  · rintro ⟨⟨p1, p2⟩, hp, hw⟩
    rw [com_mem hP h1 h2, cut_mem, cut_mem] at hp
    unfold inW at hw ⊢
    simp only at hp hw ⊢
    rcases hp with ⟨z1, rfl, z2⟩ | ⟨z1, rfl, z2⟩
    · subst z2
      split at hw <;> omega
    · subst z2
      split at hw <;> omega
  · rintro ⟨k1, k2⟩
    unfold inW at k1 k2
    simp only at k1 k2
    by_cases h : (s - a) % P ≥ (b - a) % P
    · refine ⟨(b, if w - (b - a) % P < v then w - (b - a) % P else v), (com_mem hP h1 h2 _).mpr (.inl (cut_mem.mpr ⟨by omega, rfl, rfl⟩)), ?_⟩
      unfold inW
      dsimp only
      split <;> omega
    · refine ⟨(a, if v - (a - b) % P < w then v - (a - b) % P else w), (com_mem hP h1 h2 _).mpr (.inr (cut_mem.mpr ⟨by omega, rfl, rfl⟩)), ?_⟩
      unfold inW
      dsimp only
      split <;> omega
theorem com_okq {P a w b v : Int} (hP : 0 < P) (h1 : Okq P (a, w)) (h2 : Okq P (b, v)) : ∀ p ∈ comI P a w b v, Okq P p := by
  have w1 := h1.w1; have v1 := h2.w1
  have w0 := h1.w0; have v0 := h2.w0
  have a0 := h1.a0; have a1 := h1.a1; have b0 := h2.a0; have b1 := h2.a1
  simp only at w1 v1 w0 v0 a0 a1 b0 b1
  have d := mod_b (a := b - a) hP
  have d2 := mod_b (a := a - b) hP
  rintro ⟨p1, p2⟩ hp
  rw [com_mem hP h1 h2, cut_mem, cut_mem] at hp
  simp only at hp
  rcases hp with ⟨z1, rfl, z2⟩ | ⟨z1, rfl, z2⟩ <;> subst z2 <;> constructor <;> simp only <;> (try split) <;> omega
def stepI (P : Int) (ps : List (Int × Int)) (b : Int × Int) : List (Int × Int) := ps.flatMap fun p => comI P p.1 p.2 b.1 b.2
def partsI (P : Int) : List (Int × Int) → List (Int × Int)
  | [] => []
  | a :: as => as.foldl (stepI P) [a]
theorem step_ok {P : Int} (hP : 0 < P) {ps : List (Int × Int)} {b : Int × Int} (h1 : ∀ p ∈ ps, Okq P p) (h2 : Okq P b) : (∀ p ∈ stepI P ps b, Okq P p) ∧ ∀ s u, 0 ≤ u → ((∃ p ∈ stepI P ps b, inW P s u p) ↔ (∃ p ∈ ps, inW P s u p) ∧ inW P s u b) := by
  constructor
  · intro p hp
    obtain ⟨q, hq, hp⟩ := List.mem_flatMap.mp hp
    exact com_okq hP (h1 q hq) h2 p hp
  · intro s u hu
    constructor
    · rintro ⟨p, hp, hw⟩
      obtain ⟨q, hq, hp⟩ := List.mem_flatMap.mp hp
      have := (com_within hP (h1 q hq) h2 hu).mp ⟨p, hp, hw⟩
      exact ⟨⟨q, hq, this.1⟩, this.2⟩
    · rintro ⟨⟨q, hq, hw⟩, hb⟩
      obtain ⟨p, hp, k⟩ := (com_within hP (h1 q hq) h2 hu).mpr ⟨hw, hb⟩
      exact ⟨p, List.mem_flatMap.mpr ⟨q, hq, hp⟩, k⟩
theorem fold_ok {P : Int} (hP : 0 < P) : ∀ (as ps : List (Int × Int)), (∀ p ∈ ps, Okq P p) → (∀ p ∈ as, Okq P p) → (∀ p ∈ as.foldl (stepI P) ps, Okq P p) ∧ ∀ s u, 0 ≤ u → ((∃ p ∈ as.foldl (stepI P) ps, inW P s u p) ↔ (∃ p ∈ ps, inW P s u p) ∧ ∀ a ∈ as, inW P s u a)
  | [], ps, h1, _ => ⟨h1, fun s u _ => by simp⟩
  | a :: as, ps, h1, h2 => by
    obtain ⟨k1, k2⟩ := step_ok hP h1 (h2 a (by simp))
    obtain ⟨j1, j2⟩ := fold_ok hP as (stepI P ps a) k1 fun p hp => h2 p (by simp [hp])
    refine ⟨j1, fun s u hu => ?_⟩
    rw [List.foldl_cons, j2 s u hu, k2 s u hu]
    simp only [List.mem_cons, forall_eq_or_imp]
    exact and_assoc
theorem parts_ok' {P : Int} (hP : 0 < P) {as : List (Int × Int)} (h0 : as ≠ []) (h : ∀ p ∈ as, Okq P p) : (∀ p ∈ partsI P as, Okq P p) ∧ ∀ s u, 0 ≤ u → ((∃ p ∈ partsI P as, inW P s u p) ↔ ∀ a ∈ as, inW P s u a) := by
  cases as with
  | nil => exact absurd rfl h0
  | cons a as =>
    obtain ⟨j1, j2⟩ := fold_ok hP as [a] (fun p hp => by rw [List.mem_singleton.mp hp]; exact h a (by simp)) fun p hp => h p (by simp [hp])
    refine ⟨j1, fun s u hu => (j2 s u hu).trans ?_⟩
    simp
def bestStep (b : Option (Int × Int)) (p : Int × Int) : Option (Int × Int) := match b with
  | none => some p
  | some q => if q.2 < p.2 then some p else if q.2 = p.2 ∧ p.1 < q.1 then some p else some q
def bestI (ps : List (Int × Int)) : Option (Int × Int) := ps.foldl bestStep none
structure BestOf (ps : List (Int × Int)) (b : Int × Int) : Prop where
  mem : b ∈ ps
  top : ∀ p ∈ ps, p.2 < b.2 ∨ (p.2 = b.2 ∧ b.1 ≤ p.1)
theorem best_fold : ∀ (ps qs : List (Int × Int)) (b : Option (Int × Int)), (match b with | none => qs = [] | some b => BestOf qs b) → (match ps.foldl bestStep b with | none => qs ++ ps = [] | some b => BestOf (qs ++ ps) b)
  | [], qs, b, h => by simpa using h
  | p :: ps, qs, b, h => by
    rw [List.foldl_cons, show qs ++ p :: ps = (qs ++ [p]) ++ ps by simp]
    refine best_fold ps (qs ++ [p]) _ ?_
    cases b with
    | none =>
      simp only at h
      subst h
      exact ⟨by simp, fun q hq => by simp at hq; subst hq; exact .inr ⟨rfl, Int.le_refl _⟩⟩
    | some b =>
      simp only at h
      unfold bestStep
      simp only
      split
      · rename_i hlt
        split at hlt
        · cases hlt
        · split at hlt <;> cases hlt
      · rename_i r hr
        split at hr
        · rename_i hlt
          cases hr
          refine ⟨by simp, fun q hq => ?_⟩
          rcases List.mem_append.mp hq with hq | hq
          · rcases h.top q hq with z | ⟨z, _⟩ <;> left <;> omega
          · rw [List.mem_singleton.mp hq]; exact .inr ⟨rfl, Int.le_refl _⟩
        · split at hr
          · rename_i h1 h2
            cases hr
            refine ⟨by simp, fun q hq => ?_⟩
            rcases List.mem_append.mp hq with hq | hq
            · rcases h.top q hq with z | ⟨z, z'⟩
              · left; omega
              · right; omega
            · rw [List.mem_singleton.mp hq]; exact .inr ⟨rfl, Int.le_refl _⟩
          · rename_i h1 h2
            cases hr
            refine ⟨List.mem_append.mpr (.inl h.mem), fun q hq => ?_⟩
            rcases List.mem_append.mp hq with hq | hq
            · exact h.top q hq
            · rw [List.mem_singleton.mp hq]
              omega
theorem best_ok (ps : List (Int × Int)) : match bestI ps with | none => ps = [] | some b => BestOf ps b := by
  have := best_fold ps [] none rfl
  simpa [bestI] using this
/-! ### widest -/
def ofBest (c : Cs) (P : Int) : Option (Int × Int) → D
  | none => .non
  | some b => ar c P b
theorem lc1_ok {n : Nat} {x0 x1 x2 x3 x5 : Option D} : ∀ (ys acc : List D) (M : Mu), M[n]? = some (.lst acc) → acc.length + ys.length ≤ sizeLine → dLc1G n (fun _ => True) (dName 4) dYes (dVar 4) [x0, x1, x2, x3, none, x5] ys M = .ok () (M.set n (.lst (acc ++ ys)))
  | [], acc, M, h, _ => by
    have hl := (List.getElem?_eq_some_iff.mp h)
    obtain ⟨hl, he⟩ := hl
    unfold dLc1G
    rw [if_pos trivial, List.append_nil]
    congr 1
    rw [← he]; simp
  | y :: ys, acc, M, h, hz => by
    have hl := (List.getElem?_eq_some_iff.mp h).1
    unfold dLc1G
    rw [if_pos trivial]
    simp at hz
    have ih := lc1_ok (x0 := x0) (x1 := x1) (x2 := x2) (x3 := x3) (x5 := x5) ys (acc ++ [y]) (M.set n (.lst (acc ++ [y]))) (by rw [List.getElem?_set_self hl]) (by simp; omega)
    have e1 : dName 4 y [x0, x1, x2, x3, none, x5] = some [x0, x1, x2, x3, some y, x5] := by simp
    have e2 : dYes [x0, x1, x2, x3, some y, x5] M = .ok true M := by simp
    have e3 : dVar 4 [x0, x1, x2, x3, some y, x5] M = .ok y M := by simp
    simp only [e1, e2, e3, h]
    rw [if_pos (by omega), ih]
    simp
/-- where the parts stand -/
def Src (c : Cs) (P : Int) (M : Mu) (x : D) (ps : List (Int × Int)) : Prop := x = .lst (ps.map (ar c P)) ∨ ∃ n, x = .loc n ∧ M[n]? = some (.lst (ps.map (ar c P)))
theorem step_len {P : Int} {b : Int × Int} : ∀ ps : List (Int × Int), (stepI P ps b).length ≤ 2 * ps.length
  | [] => by simp [stepI]
  | p :: ps => by
    have := step_len (P := P) (b := b) ps
    have cl : (comI P p.1 p.2 b.1 b.2).length ≤ 2 := com_len
    unfold stepI at this ⊢
    rw [List.flatMap_cons, List.length_append, List.length_cons]
    omega
theorem best_okq {P : Int} {b : Option (Int × Int)} {p : Int × Int} (hp : Okq P p) (hb : ∀ q, b = some q → Okq P q) : ∀ q, bestStep b p = some q → Okq P q := by
  intro q h
  unfold bestStep at h
  split at h
  · cases h; exact hp
  · split at h
    · cases h; exact hp
    · split at h
      · cases h; exact hp
      · cases h; exact hb _ rfl
/-! ### fewest lights that bar, as pairs of whole numbers -/
def pick {α : Type} (qs : List α) (C : List Nat) : List α := C.filterMap (qs[·]?)
theorem pick_mem {α : Type} {qs : List α} {C : List Nat} {q : α} : q ∈ pick qs C ↔ ∃ i ∈ C, qs[i]? = some q := by unfold pick; rw [List.mem_filterMap]
theorem pick_map {α β : Type} (f : α → β) (qs : List α) (C : List Nat) : pick (qs.map f) C = (pick qs C).map f := by
  unfold pick
  rw [List.map_filterMap]
  congr 1
  funext i
  rw [List.getElem?_map]
def gdQ (P M : Nat) (q : Int × Int) : Tent := (unt (Rat.divInt q.1 P) (2 * M), (-unt (Rat.divInt q.2 P) (2 * M)) % (2 * M))
theorem grid_map {P M : Nat} (qs : List (Int × Int)) : gridT (2 * M) (qs.map (prR P)) = qs.map (gdQ P M) := by
  unfold gridT; rw [List.map_map]; rfl
abbrev baQ (P M : Nat) (v : Int) (q : Int × Int) : Int × Int := barI (2 * M) (unt (Rat.divInt v P) (2 * M)) (gdQ P M q)
theorem bars_cs {P : Nat} (hP : 0 < P) {qs : List (Int × Int)} {v : Int} {M : Nat} (hM : M = cbot (prs (qs.map (prR P)) ++ [Rat.divInt v P])) {cs : List (Int × Int)} (hc : ∀ q ∈ cs, q ∈ qs) :
    ((∃ p ∈ cs.map (baQ P M v), p.2 < 0) ∨ Cov true (2 * M) (cs.map (baQ P M v))) ↔ BarsQ P v cs := by
  obtain ⟨f, hf, hPf, M0, hv, hq⟩ := grid_scale hP (qs := qs) (V := [v]) (M := M) (by simpa using hM)
  have hv := hv v (by simp)
  have e1 : (∃ p ∈ cs.map (baQ P M v), p.2 < 0) ↔ ∃ t ∈ cs.map (gdQ P M), (barI (2 * M) (unt (Rat.divInt v P) (2 * M)) t).2 < 0 := by
    constructor
    · rintro ⟨p, hp, h⟩
      obtain ⟨q, hq, rfl⟩ := List.mem_map.mp hp
      exact ⟨_, List.mem_map.mpr ⟨q, hq, rfl⟩, h⟩
    · rintro ⟨t, ht, h⟩
      obtain ⟨q, hq, rfl⟩ := List.mem_map.mp ht
      exact ⟨_, List.mem_map.mpr ⟨q, hq, rfl⟩, h⟩
  have e2 : cs.map (baQ P M v) = (cs.map (gdQ P M)).map (barI (2 * M) (unt (Rat.divInt v P) (2 * M))) := by rw [List.map_map]; rfl
  rw [e1, e2, ← bars_iff hf (by omega)]
  unfold BarsAll BarsQ
  refine forall_congr' fun x => ?_
  rw [hv]
  constructor
  · rintro ⟨t, ht, h⟩
    obtain ⟨q, h1, rfl⟩ := List.mem_map.mp ht
    obtain ⟨k1, k2⟩ := hq q (hc q h1)
    refine ⟨q, h1, ?_⟩
    have k3 := k2 x
    simp only [gdQ] at h
    rw [k1, k3] at h
    exact h
  · rintro ⟨q, h1, h⟩
    obtain ⟨k1, k2⟩ := hq q (hc q h1)
    refine ⟨_, List.mem_map.mpr ⟨q, h1, rfl⟩, ?_⟩
    have k3 := k2 x
    simp only [gdQ]
    rw [k1, k3]
    exact h
theorem arcsOf_pick (A : List (Int × Int)) (C : List Nat) : arcsOf A C = pick A C := rfl
theorem pick_sub {α : Type} {qs : List α} {C : List Nat} : ∀ q ∈ pick qs C, q ∈ qs := fun q h => by
  obtain ⟨i, _, h⟩ := pick_mem.mp h
  exact List.mem_of_getElem? h
theorem barsQ_ne {P : Nat} {v : Int} {cs : List (Int × Int)} (h : BarsQ P v cs) : cs ≠ [] := by
  rintro rfl
  obtain ⟨q, hq, _⟩ := h 0
  simp at hq
theorem fb_some {P : Nat} (hP : 0 < P) {qs : List (Int × Int)} {v : Int} {M : Nat} (hM : M = cbot (prs (qs.map (prR P)) ++ [Rat.divInt v P])) {r : List Nat} (h : fbI (2 * M) (qs.map (baQ P M v)) = some r) :
    BarsQ P v (pick qs r) ∧ (∀ i ∈ r, i < qs.length) ∧ r ≠ [] ∧ ∀ C, BarsQ P v (pick qs C) → r.length ≤ C.length := by
  have M0 : 0 < M := by rw [hM]; exact cbot_pos _
  have ne1 : ∀ C, BarsQ P v (pick qs C) → 1 ≤ C.length := fun C hC => by
    cases C with
    | nil => exact absurd rfl (barsQ_ne hC)
    | cons a C => simp
  unfold fbI at h
  cases hf : (qs.map (baQ P M v)).findIdx? (fun p => decide (p.2 < 0)) with
  | some j =>
    rw [hf] at h
    cases h
    rw [List.findIdx?_eq_some_iff_getElem] at hf
    obtain ⟨hj, h1, _⟩ := hf
    have hj' : j < qs.length := by simpa using hj
    have h1' := of_decide_eq_true h1
    rw [List.getElem_map] at h1'
    refine ⟨?_, by simpa using hj', by simp, fun C hC => by simpa using ne1 C hC⟩
    rw [← bars_cs hP hM pick_sub]
    left
    refine ⟨_, List.mem_map.mpr ⟨qs[j], ?_, rfl⟩, h1'⟩
    exact pick_mem.mpr ⟨j, by simp, List.getElem?_eq_getElem hj'⟩
  | none =>
    rw [hf] at h
    have h : fiI true (2 * M) (qs.map (baQ P M v)) = some r := h
    have nn : ∀ p ∈ qs.map (baQ P M v), ¬ p.2 < 0 := fun p hp => by
      have := (List.findIdx?_eq_none_iff.mp hf) p hp
      simpa using this
    obtain ⟨k1, k2, k3, k4⟩ := fi_some (by omega) (fun p hp => by obtain ⟨q, _, rfl⟩ := List.mem_map.mp hp; exact bar_le (by omega) _) h
    have conv : ∀ C, BarsQ P v (pick qs C) ↔ Cov true (2 * M) (arcsOf (qs.map (baQ P M v)) C) := fun C => by
      rw [← bars_cs hP hM pick_sub, arcsOf_pick, pick_map]
      constructor
      · rintro (⟨p, hp, hn⟩ | h)
        · obtain ⟨q, hq, rfl⟩ := List.mem_map.mp hp
          exact absurd hn (nn _ (List.mem_map.mpr ⟨q, pick_sub q hq, rfl⟩))
        · exact h
      · exact .inr
    exact ⟨(conv r).mpr k1, by simpa using k2, k3, fun C hC => k4 C ((conv C).mp hC)⟩
theorem fb_ex {P : Nat} (hP : 0 < P) {qs : List (Int × Int)} {v : Int} {M : Nat} (hM : M = cbot (prs (qs.map (prR P)) ++ [Rat.divInt v P])) (h : BarsQ P v qs) : ∃ r, fbI (2 * M) (qs.map (baQ P M v)) = some r := by
  have M0 : 0 < M := by rw [hM]; exact cbot_pos _
  unfold fbI
  cases hf : (qs.map (baQ P M v)).findIdx? (fun p => decide (p.2 < 0)) with
  | some j => exact ⟨_, rfl⟩
  | none =>
    rw [← bars_cs hP hM (fun q h => h)] at h
    rcases h with ⟨p, hp, hn⟩ | h
    · have := (List.findIdx?_eq_none_iff.mp hf) p hp
      simp at this; omega
    · exact fi_ex (by omega) (fun p hp => by obtain ⟨q, _, rfl⟩ := List.mem_map.mp hp; exact bar_le (by omega) _) h
/-! ### choices: all parts of a list, in its order -/
theorem sub_pick {α : Type} : ∀ {xs ys : List α}, ys.Sublist xs → ∃ C : List Nat, pick xs C = ys ∧ C.length = ys.length := by
  intro xs ys h
  induction h with
  | slnil => exact ⟨[], rfl, rfl⟩
  | cons a _ ih =>
    obtain ⟨C, h1, h2⟩ := ih
    refine ⟨C.map (· + 1), ?_, by simpa using h2⟩
    rw [← h1]
    unfold pick
    rw [List.filterMap_map]
    rfl
  | cons_cons a _ ih =>
    obtain ⟨C, h1, h2⟩ := ih
    refine ⟨0 :: C.map (· + 1), ?_, by simp [h2]⟩
    rw [← h1]
    unfold pick
    rw [List.filterMap_cons, List.filterMap_map]
    rfl
/-! ### choices -/
def chStep {α : Type} (found : List (List α)) (x : α) : List (List α) := found ++ found.map (· ++ [x])
def choices {α : Type} (xs : List α) : List (List α) := xs.foldl chStep [[]]
theorem ch_snoc {α : Type} (xs : List α) (x : α) : choices (xs ++ [x]) = choices xs ++ (choices xs).map (· ++ [x]) := by
  unfold choices; rw [List.foldl_append]; rfl
theorem ch_sub {α : Type} (rs : List α) : ∀ ys, ys ∈ choices rs.reverse ↔ ys.Sublist rs.reverse := by
  induction rs with
  | nil => intro ys; simp [choices]
  | cons x rs ih =>
    intro ys
    rw [List.reverse_cons, ch_snoc, List.mem_append]
    constructor
    · rintro (h | h)
      · exact ((ih ys).mp h).trans (List.sublist_append_left _ _)
      · obtain ⟨zs, h1, rfl⟩ := List.mem_map.mp h
        exact List.Sublist.append ((ih zs).mp h1) (List.Sublist.refl _)
    · intro h
      obtain ⟨l1, l2, rfl, h1, h2⟩ := List.sublist_append_iff.mp h
      have : l2 = [] ∨ l2 = [x] := by
        cases h2 with
        | cons _ h => exact .inl (List.sublist_nil.mp h)
        | cons_cons _ h => exact .inr (by rw [List.sublist_nil.mp h])
      rcases this with rfl | rfl
      · left; rw [List.append_nil]; exact (ih l1).mpr h1
      · right; exact List.mem_map.mpr ⟨l1, (ih l1).mpr h1, rfl⟩
theorem choices_iff {α : Type} (xs ys : List α) : ys ∈ choices xs ↔ ys.Sublist xs := by
  have := ch_sub xs.reverse ys
  rwa [List.reverse_reverse] at this
theorem ch_len {α : Type} : ∀ (xs : List α) (f : List (List α)), (xs.foldl chStep f).length = f.length * 2 ^ xs.length
  | [], f => by simp
  | x :: xs, f => by
    rw [List.foldl_cons, ch_len xs]
    unfold chStep
    rw [List.length_append, List.length_map, List.length_cons, Nat.pow_succ, ← Nat.two_mul, Nat.mul_comm 2, Nat.mul_assoc, Nat.mul_comm 2]
def rowsD {α : Type} (F : α → D) (ys : List α) : D := .lst (ys.map F)
theorem ch_step_ok (c : Cs) {α : Type} {F : α → D} {found : List (List α)} (hl : found.length ≤ 1000) (hi : ∀ ys ∈ found, ys.length ≤ 1000) (x : α) (x0 x3 : Option D) (m : Mu) :
    B_w_choices_1 c [x0, some (.lst (found.map (rowsD F))), some (F x), x3] m = .nx [x0, some (.lst ((chStep found x).map (rowsD F))), some (F x), x3] m := by
  have hz : sizeLine = 16777216 := rfl
  have e := compL_of (g := dName 3) (c := dYes) (b := C_w_choices_1 c) (e := [x0, some (.lst (found.map (rowsD F))), some (F x), none]) (m := m) (F := rowsD F) (f := fun ys => rowsD F (ys ++ [x])) (p := fun _ => true) found [] (fun ys hy => ⟨[x0, some (.lst (found.map (rowsD F))), some (F x), some (rowsD F ys)], by simp, by simp, fun _ => by
    have h1 : (ys.map F).length + 1 ≤ 16777216 := by have := hi ys hy; simp; omega
    have h2 : (ys.map F).length ≤ 16777215 := by omega
    have e : rowsD F (ys ++ [x]) = .lst (ys.map F ++ [F x]) := by unfold rowsD; rw [List.map_append]; rfl
    rw [e]
    unfold rowsD
    obtain ⟨Y, hY⟩ : ∃ Y, ys.map F = Y := ⟨_, rfl⟩
    rw [hY] at h1 h2 ⊢
    simp [C_w_choices_1_ap, gCat, seqL, hz, h2]⟩) (by simp; omega)
  rw [filt_true, List.nil_append] at e
  have e2 : found.map (fun ys => rowsD F (ys ++ [x])) = (found.map (· ++ [x])).map (rowsD F) := by rw [List.map_map]; rfl
  rw [e2] at e
  have e3 : (chStep found x).map (rowsD F) = found.map (rowsD F) ++ (found.map (· ++ [x])).map (rowsD F) := by unfold chStep; rw [List.map_append]
  rw [e3]
  have l1 : (found.map (rowsD F)).length ≤ 1000 := by simpa using hl
  have l2 : ((found.map (· ++ [x])).map (rowsD F)).length ≤ 1000 := by simpa using hl
  obtain ⟨A, hA⟩ : ∃ Y, found.map (rowsD F) = Y := ⟨_, rfl⟩
  obtain ⟨B, hB⟩ : ∃ Y, (found.map (· ++ [x])).map (rowsD F) = Y := ⟨_, rfl⟩
  rw [hA] at e l1 ⊢
  rw [hB] at e l2 ⊢
  have l3 : A.length + B.length ≤ 16777216 := by omega
  simp [B_w_choices_1_ap, wipeE, e, gCat, seqL, hz, l3]
theorem ch_loop (c : Cs) {α : Type} {F : α → D} (x0 : Option D) (m : Mu) : ∀ (ys : List α) (found : List (List α)) (x2 x3 : Option D), (∀ zs ∈ found, zs.length + ys.length ≤ 1000) → found.length * 2 ^ ys.length ≤ 1000 →
    ∃ x2' x3', dLoop (dName 2) (B_w_choices_1 c) (ys.map F) [x0, some (.lst (found.map (rowsD F))), x2, x3] m = .nx [x0, some (.lst ((ys.foldl chStep found).map (rowsD F))), x2', x3'] m
  | [], found, x2, x3, _, _ => ⟨x2, x3, rfl⟩
  | y :: ys, found, x2, x3, h1, h2 => by
    have p2 : 1 ≤ 2 ^ ys.length := Nat.one_le_two_pow
    rw [List.length_cons, Nat.pow_succ] at h2
    have hf : found.length ≤ 1000 := by
      have : found.length * 1 ≤ found.length * (2 ^ ys.length * 2) := Nat.mul_le_mul_left _ (by omega)
      omega
    have st := ch_step_ok c (F := F) hf (fun zs hz => by have := h1 zs hz; omega) y x0 x3 m
    obtain ⟨x2', x3', k⟩ := ch_loop c x0 m ys (chStep found y) (some (F y)) x3 (fun zs hz => by
      unfold chStep at hz
      rcases List.mem_append.mp hz with h | h
      · have := h1 zs h; simp at this; omega
      · obtain ⟨ws, h3, rfl⟩ := List.mem_map.mp h
        have := h1 ws h3; simp at this ⊢; omega) (by
      have : (chStep found y).length = found.length * 2 := by unfold chStep; rw [List.length_append, List.length_map]; omega
      rw [this, Nat.mul_assoc, Nat.mul_comm 2]
      exact h2)
    refine ⟨x2', x3', ?_⟩
    rw [List.map_cons]
    exact (dLoop_step (by simp) st).trans k
theorem choices_ok (c : Cs) {α : Type} {F : α → D} {xs : List α} (hl : xs.length ≤ 9) (m : Mu) : F_w_choices c [.lst (xs.map F)] m = .ok (.lst ((choices xs).map (rowsD F))) m := by
  have hz : sizeLine = 16777216 := rfl
  have p9 : 2 ^ xs.length ≤ 2 ^ 9 := Nat.pow_le_pow_right (by decide) hl
  obtain ⟨x2, x3, k⟩ := ch_loop c (F := F) (some (.lst (xs.map F))) m xs [[]] none none (fun zs hz => by simp at hz; subst hz; simp; omega) (by simp; omega)
  have e0 : ([[]] : List (List α)).map (rowsD F) = [.lst []] := rfl
  rw [e0] at k
  have e1 : xs.foldl chStep [[]] = choices xs := rfl
  rw [e1] at k
  obtain ⟨A, hA⟩ : ∃ Y, xs.map F = Y := ⟨_, rfl⟩
  obtain ⟨B, hB⟩ : ∃ Y, (choices xs).map (rowsD F) = Y := ⟨_, rfl⟩
  rw [hA, hB] at k
  rw [hA, hB]
  simp [F_w_choices, env0, hz, k]
/-! ### the fewest that bar, among all choices -/
theorem pick_range {α : Type} : ∀ xs : List α, pick xs (List.range xs.length) = xs
  | [] => rfl
  | x :: xs => by
    have ih := pick_range xs
    unfold pick at ih ⊢
    rw [List.length_cons, List.range_succ_eq_map, List.filterMap_cons, List.filterMap_map]
    exact congrArg (x :: ·) ih
theorem pick_sublist {α : Type} (xs : List α) (p : Nat → Bool) : (pick xs ((List.range xs.length).filter p)).Sublist xs := by
  have h : (pick xs ((List.range xs.length).filter p)).Sublist (pick xs (List.range xs.length)) := by
    unfold pick
    exact List.Sublist.filterMap _ List.filter_sublist
  rwa [pick_range] at h
theorem pick_len {α : Type} (xs : List α) (C : List Nat) : (pick xs C).length ≤ C.length := List.length_filterMap_le _ _
theorem barsQ_same {P : Nat} {V : Int} {A B : List (Int × Int)} (h : ∀ q, q ∈ A → q ∈ B) (k : BarsQ P V A) : BarsQ P V B := fun x => by
  obtain ⟨q, hq, h1⟩ := k x
  exact ⟨q, h q hq, h1⟩
noncomputable def barB (P : Nat) (V : Int) (rs : List Row) : Bool := @decide (rs ≠ [] ∧ BarsQ (2 * P) V (rs.map gq)) (Classical.propDecidable _)
theorem barB_iff {P : Nat} {V : Int} {rs : List Row} : barB P V rs = true ↔ BarsQ (2 * P) V (rs.map gq) := by
  unfold barB
  rw [@decide_eq_true_iff _ (Classical.propDecidable _)]
  exact ⟨fun h => h.2, fun h => ⟨fun e => barsQ_ne h (by rw [e]; rfl), h⟩⟩
/-- what the program computes is what the choices tell -/
theorem due_some {P : Nat} (hP : 0 < P) {V : Int} {rs : List Row} {M : Nat} (hM : M = cbot (prs ((rs.map gq).map (prR (2 * P))) ++ [Rat.divInt V ((2 * P : Nat) : Int)])) {r : List Nat} (h : fbI (2 * M) ((rs.map gq).map (baQ (2 * P) M V)) = some r) :
    (∃ sub ∈ choices rs, barB P V sub = true ∧ sub.length = r.length) ∧ ∀ sub ∈ choices rs, barB P V sub = true → r.length ≤ sub.length := by
  obtain ⟨k1, k2, k3, k4⟩ := fb_some (P := 2 * P) (by omega) hM h
  have low : ∀ sub ∈ choices rs, barB P V sub = true → r.length ≤ sub.length := fun sub hs hb => by
    obtain ⟨C, h1, h2⟩ := sub_pick ((choices_iff rs sub).mp hs)
    rw [← h2]
    refine k4 C ?_
    rw [pick_map, h1]
    exact barB_iff.mp hb
  refine ⟨?_, low⟩
  obtain ⟨C, hC⟩ : ∃ C, (List.range rs.length).filter (fun i => decide (i ∈ r)) = C := ⟨_, rfl⟩
  have sub := pick_sublist rs (fun i => decide (i ∈ r))
  rw [hC] at sub
  have inC : ∀ i, i ∈ C ↔ i < rs.length ∧ i ∈ r := fun i => by rw [← hC, List.mem_filter, List.mem_range, decide_eq_true_iff]
  have nd : C.Nodup := by rw [← hC]; exact List.Pairwise.sublist List.filter_sublist List.nodup_range
  have cl : C.length ≤ r.length := List.Nodup.length_le_of_subset nd fun i hi => ((inC i).mp hi).2
  have bars : barB P V (pick rs C) = true := by
    rw [barB_iff, ← pick_map]
    refine barsQ_same (fun q hq => ?_) k1
    obtain ⟨i, hi, h1⟩ := pick_mem.mp hq
    have il : i < rs.length := by have := k2 i hi; simpa using this
    exact pick_mem.mpr ⟨i, (inC i).mpr ⟨il, hi⟩, h1⟩
  have mem : pick rs C ∈ choices rs := (choices_iff rs _).mpr sub
  have := low _ mem bars
  have := pick_len rs C
  exact ⟨_, mem, bars, by omega⟩
theorem due_none {P : Nat} (hP : 0 < P) {V : Int} {rs : List Row} {M : Nat} (hM : M = cbot (prs ((rs.map gq).map (prR (2 * P))) ++ [Rat.divInt V ((2 * P : Nat) : Int)])) (h : fbI (2 * M) ((rs.map gq).map (baQ (2 * P) M V)) = none) :
    ∀ sub ∈ choices rs, barB P V sub = false := fun sub hs => by
  cases hb : barB P V sub with
  | false => rfl
  | true =>
    exfalso
    have h1 := barB_iff.mp hb
    have h2 : BarsQ (2 * P) V (rs.map gq) := barsQ_same (fun q hq => by
      obtain ⟨r, hr, rfl⟩ := List.mem_map.mp hq
      exact List.mem_map.mpr ⟨r, ((choices_iff rs sub).mp hs).subset hr, rfl⟩) h1
    obtain ⟨r, hr⟩ := fb_ex (P := 2 * P) (by omega) hM h2
    rw [hr] at h; cases h
/-! ### a fine cycle has no higher reach -/
theorem fine_top {P : Nat} (hP : 0 < P) {rs : List Row} (h0 : rs ≠ []) :
    ∃ R : Int, (∀ x M : Int, (∀ r ∈ rs, M ≤ 2 * r.s - dst (2 * P) (x + 2 * (r.o + r.b))) → M ≤ R) ∧ (∃ x : Int, ∀ r ∈ rs, R ≤ 2 * r.s - dst (2 * P) (x + 2 * (r.o + r.b))) ∧ ∀ x M : Int, (∀ r ∈ rs, M ≤ 4 * r.s - dst (4 * P) (x + 4 * (r.o + r.b))) → M ≤ 2 * R := by
  have hP0 : (0 : Int) < P := by omega
  let S : Lt → Int := fun l => l.s.num * P / l.s.den
  let T : Lt → Int := fun l => (l.o + l.b).num * P / (l.o + l.b).den
  have hST : ∀ r ∈ rs, S (rowL P r) = r.s ∧ T (rowL P r) = r.o + r.b := fun r hr => by
    have a1 := divInt_mul_den (q := (rowL P r).s) (S := r.s) (P := P) (by omega) rfl
    have a2 := divInt_mul_den (q := (rowL P r).o + (rowL P r).b) (S := r.o + r.b) (P := P) (by omega) (di_add r.o r.b P)
    exact ⟨by show (rowL P r).s.num * P / (rowL P r).s.den = _; rw [a1, Int.mul_ediv_cancel _ (dne _)], by show ((rowL P r).o + (rowL P r).b).num * P / ((rowL P r).o + (rowL P r).b).den = _; rw [a2, Int.mul_ediv_cancel _ (dne _)]⟩
  have dbl : ∀ a : Int, Rat.divInt a P = Rat.divInt (2 * a) ((2 * P : Nat) : Int) := fun a => by
    have e : ((2 * P : Nat) : Int) = 2 * P := by omega
    rw [e, Rat.divInt_mul_left (show (2 : Int) ≠ 0 by decide)]
  have hS : ∀ l ∈ rs.map (rowL P), l.s = Rat.divInt (S l) P := fun l hl => by obtain ⟨r, hr, rfl⟩ := List.mem_map.mp hl; rw [(hST r hr).1]; rfl
  have hT : ∀ l ∈ rs.map (rowL P), l.o + l.b = Rat.divInt (T l) P := fun l hl => by obtain ⟨r, hr, rfl⟩ := List.mem_map.mp hl; rw [(hST r hr).2]; exact di_add r.o r.b P
  have hne : rs.map (rowL P) ≠ [] := by simpa using h0
  obtain ⟨M, hM⟩ : ∃ M, cbot (prs ((rs.map (rowL P)).map fun l => (l.s, l.o + l.b))) = M := ⟨_, rfl⟩
  have M0 : 0 < M := by rw [← hM]; exact cbot_pos _
  obtain ⟨s, hs, hq⟩ := exists_min (fun y => -lowH (2 * M) (gridT (2 * M) ((rs.map (rowL P)).map fun l => (l.s, l.o + l.b))) y) (crs (2 * M) (gridT (2 * M) ((rs.map (rowL P)).map fun l => (l.s, l.o + l.b)))) (crs_ne (by unfold gridT; simpa using h0))
  have hq' : ∀ y ∈ crs (2 * (M : Int)) (gridT (2 * M) ((rs.map (rowL P)).map fun l => (l.s, l.o + l.b))), lowH (2 * M) (gridT (2 * M) ((rs.map (rowL P)).map fun l => (l.s, l.o + l.b))) y ≤ lowH (2 * M) (gridT (2 * M) ((rs.map (rowL P)).map fun l => (l.s, l.o + l.b))) s := fun y hy => by
    have := hq y hy
    omega
  obtain ⟨R, f, f0, e1, e2, t1⟩ := tents_of (S := S) (T := T) hP hne hS hT hM.symm hs hq'
  obtain ⟨R', f', f0', e1', e2', t2⟩ := tents_of (S := fun l => 2 * S l) (T := fun l => 2 * T l) (P := 2 * P) (by omega) hne (fun l hl => by rw [← dbl]; exact hS l hl) (fun l hl => by rw [← dbl]; exact hT l hl) hM.symm hs hq'
  have ff : f' = 2 * f := by
    have : f' * (M : Int) = (2 * f) * M := by rw [← e1', Int.mul_assoc, ← e1]; omega
    exact Int.eq_of_mul_eq_mul_right (by omega) this
  have RR : R' = 2 * R := by rw [e2', e2, ff, Int.mul_assoc]
  refine ⟨R, fun x M hx => ?_, ?_, fun x M hx => ?_⟩
  · refine t1.le x M fun l hl => ?_
    obtain ⟨r, hr, rfl⟩ := List.mem_map.mp hl
    rw [(hST r hr).1, (hST r hr).2]
    exact hx r hr
  · obtain ⟨x, hx⟩ := t1.at_
    refine ⟨x, fun r hr => ?_⟩
    have := hx _ (List.mem_map.mpr ⟨r, hr, rfl⟩)
    rwa [(hST r hr).1, (hST r hr).2] at this
  · rw [← RR]
    refine t2.le x M fun l hl => ?_
    obtain ⟨r, hr, rfl⟩ := List.mem_map.mp hl
    rw [(hST r hr).1, (hST r hr).2]
    have := hx r hr
    rw [show 2 * ((2 * P : Nat) : Int) = 4 * P by omega, show x + 2 * (2 * (r.o + r.b)) = x + 4 * (r.o + r.b) by omega]
    omega
theorem fine_bd {P : Nat} (hP : 0 < P) {rs : List Row} (ok : ∀ r ∈ rs, RowOk P r) (h0 : rs ≠ []) {R : Int} (h : ∀ x M : Int, (∀ r ∈ rs, M ≤ 2 * r.s - dst (2 * P) (x + 2 * (r.o + r.b))) → M ≤ R) (h2 : ∃ x : Int, ∀ r ∈ rs, R ≤ 2 * r.s - dst (2 * P) (x + 2 * (r.o + r.b))) : -(P : Int) ≤ R ∧ R ≤ 2 * P := by
  constructor
  · refine h 0 _ fun r hr => ?_
    have := dst_half (N := 2 * P) (by omega) (0 + 2 * (r.o + r.b))
    have := (ok r hr).s0
    omega
  · obtain ⟨r0, hr0⟩ := List.exists_mem_of_ne_nil _ h0
    obtain ⟨x, hx⟩ := h2
    have := dst_nn (N := 2 * P) (by omega) (x + 2 * (r0.o + r0.b))
    have := hx r0 hr0
    have := (ok r0 hr0).s1
    omega
theorem bars_top {P : Nat} (hP : 0 < P) {rs : List Row} (h0 : rs ≠ []) (V : Int) : BarsQ (2 * P) V (rs.map gq) ↔ maxI ((List.range (2 * (P : Int)).toNat).map fun k : Nat => lw P rs k) < V := by
  obtain ⟨R, a1, a2, a3⟩ := fine_top hP h0
  rw [reach_same (by omega) h0 a1 a2]
  have e2 : 2 * ((2 * P : Nat) : Int) = 4 * P := by omega
  constructor
  · intro h
    obtain ⟨x, hx⟩ := a2
    obtain ⟨q, hq, h1⟩ := h (2 * x)
    obtain ⟨r, hr, rfl⟩ := List.mem_map.mp hq
    have := hx r hr
    simp only [gq] at h1
    have e : dst (4 * (P : Int)) (2 * x + 2 * (2 * (r.o + r.b))) = 2 * dst (2 * P) (x + 2 * (r.o + r.b)) := by
      rw [show 4 * (P : Int) = 2 * (2 * P) by omega, show 2 * x + 2 * (2 * (r.o + r.b)) = 2 * (x + 2 * (r.o + r.b)) by omega, dst_mul (by omega) (by omega)]
    rw [e2, e] at h1
    omega
  · intro h x
    refine Classical.byContradiction fun no => ?_
    have := a3 x (2 * V) fun r hr => by
      refine Int.not_lt.mp fun k => no ⟨gq r, List.mem_map.mpr ⟨r, hr, rfl⟩, ?_⟩
      simp only [gq]
      rw [e2, show x + 2 * (2 * (r.o + r.b)) = x + 4 * (r.o + r.b) by omega]
      omega
    omega
theorem bars_low {P : Nat} (hP : 0 < P) {qs : List (Int × Int)} {v : Int} {M : Nat} (hM : M = cbot (prs (qs.map (prR P)) ++ [Rat.divInt v P])) (hn : qs ≠ []) (h : BarsQ P v qs) (s : Int) : lowH (2 * M) (qs.map (gdQ P M)) s < unt (Rat.divInt v P) (2 * M) := by
  obtain ⟨f, hf, hPf, M0, sv, sq⟩ := grid_scale hP (qs := qs) (V := [v]) (M := M) (by simpa using hM)
  have sv := sv v (by simp)
  obtain ⟨q, hq, h1⟩ := h (f * s)
  obtain ⟨k1, k2⟩ := sq q hq
  rw [← k2, ← k1, ← sv, ← Int.mul_sub, dst_mul (by omega) hf, ← Int.mul_sub] at h1
  have h2 := Int.lt_of_mul_lt_mul_left h1 (Int.le_of_lt hf)
  refine Int.lt_of_le_of_lt (lowH_le (N := 2 * M) (ts := qs.map (gdQ P M)) (by simpa using hn) s (gdQ P M q) (List.mem_map.mpr ⟨q, hq, rfl⟩)) ?_
  unfold hAt gdQ
  exact h2
/-! ### papers of bars are made -/
def covS (n : Nat) : Str := Str.ofString "covered " ++ itxt n
theorem cov_len : (Str.ofString "covered ").length = 8 := by decide +kernel
theorem ilen {n : Nat} (h : n ≤ 1000) : (itxt n).length ≤ 2000 := itxt_len (k := 20) (Bi.lt (by omega) (by omega)) (by decide)
theorem covS_len {n : Nat} (h : n ≤ 1000) : (covS n).length ≤ 3000 := by unfold covS; rw [Str.length_append, cov_len]; have := ilen h; omega
/-! ### decide, where no light is too short -/
theorem half_diN {P : Nat} {x y : Int} (hP : 0 < P) : (Rat.divInt x P + Rat.divInt y P) * (1/2) = Rat.divInt (x + y) ((2 * P : Nat) : Int) := by
  have e : ((2 * P : Nat) : Int) = 2 * P := by omega
  rw [e, di_add, ← half_eq, Rat.divInt_mul_divInt]
  rw [Int.mul_one, Int.mul_comm]
theorem gq_prN {P : Nat} (hP : 0 < P) (r : Row) : prR (2 * P) (gq r) = (Rat.divInt r.s P, Rat.divInt r.o P + Rat.divInt r.b P) := by
  have e : ((2 * P : Nat) : Int) = 2 * P := by omega
  unfold prR gq
  rw [e, di_add]
  dsimp only
  rw [Rat.divInt_mul_left (show (2 : Int) ≠ 0 by decide), Rat.divInt_mul_left (show (2 : Int) ≠ 0 by decide)]
theorem belows_get (n : Nat) (f : Nat → D) (hf : ∀ k, below n (f k) = true) : ∀ ks : List Nat, belows n (ks.map f) = true
  | [] => rfl
  | k :: ks => by simp only [List.map_cons, belows, hf, belows_get n f hf ks, Bool.and_self]
/-- the name at a place -/
def nmD (rs : List Row) (k : Nat) : D := .str ((rs.map Row.nm).getD k (Str.ofString ""))
/-! ### caps on the grid, where heights and middles are even -/
theorem cap_iff_ev {f N v : Int} (hf : 0 < f) (hN : 0 < N) (hE : N % 2 = 0) {ts : List (Int × Int)} (ht : ∀ t ∈ ts, t.1 % 2 = 0 ∧ t.2 % 2 = 0) : CapAll f N v ts ↔ Cov false N (ts.map (capI N v)) := by
  have hf0 : 0 < f := hf
  have pr : ∀ t : Int × Int, 0 ≤ prtI v t ∧ t.1 - v ≤ prtI v t ∧ (prtI v t = 0 ∨ prtI v t = t.1 - v) := fun t => by unfold prtI; split <;> omega
  have key : ∀ (t : Int × Int) (x : Int), f * t.1 - dst (f * N) (x - f * t.2) ≤ f * v ↔ f * prtI v t ≤ dst (f * N) (x - f * t.2) := fun t x => by
    have h := pr t
    have nn := dst_nn (N := f * N) (Int.mul_pos hf0 hN) (x - f * t.2)
    have e : f * (t.1 - v) = f * t.1 - f * v := Int.mul_sub _ _ _
    rcases h.2.2 with z | z
    · rw [z, Int.mul_zero]
      have : f * (t.1 - v) ≤ f * 0 := Int.mul_le_mul_of_nonneg_left (by omega) (by omega)
      rw [Int.mul_zero] at this; omega
    · rw [z]; omega
  constructor
  · intro h X
    obtain ⟨Z, hZ, hZv⟩ : ∃ Z : Int, (Z = X ∨ Z = X + 1) ∧ (Z + v) % 2 = 1 := by
      rcases Int.emod_two_eq (X + v) with z | z
      · exact ⟨X + 1, .inr rfl, by omega⟩
      · exact ⟨X, .inl rfl, z⟩
    obtain ⟨t, htm, h1⟩ := h (f * Z)
    rw [key] at h1
    refine ⟨capI N v t, List.mem_map.mpr ⟨t, htm, rfl⟩, ?_⟩
    have te := ht t htm
    rw [← Int.mul_sub, dst_mul hN hf0] at h1
    have h1 := Int.le_of_mul_le_mul_left h1 hf0
    have h2 := dst_lo' h1
    obtain ⟨Y, hY⟩ : ∃ Y, (Z - t.2) % N = Y := ⟨_, rfl⟩
    obtain ⟨p, hp⟩ : ∃ p, prtI v t = p := ⟨_, rfl⟩
    have h := pr t
    rw [hY, hp] at h2
    rw [hp] at h
    have my := mod_b (a := Z - t.2) hN
    rw [hY] at my
    have ey : (Z - t.2) % 2 = Y % 2 := by
      have e := Int.emod_add_mul_ediv (Z - t.2) N
      rw [hY] at e
      have : (N * ((Z - t.2) / N)) % 2 = 0 := by rw [Int.mul_emod, hE]; simp
      omega
    rw [iw_pos hN]
    unfold capI
    simp only [Bool.false_eq_true, false_implies, and_true]
    rw [hp]
    have np : N - 2 * p > -1 := by omega
    rw [if_pos np, Int.sub_emod_emod]
    have mx := mod_b (a := X - t.2) hN
    obtain ⟨W, hW⟩ : ∃ Y, (X - t.2) % N = Y := ⟨_, rfl⟩
    rw [hW] at mx
    have key2 : p ≤ W ∧ W < N - p := by
      rcases h.2.2 with z | z
      · omega
      · have podd : p % 2 = v % 2 := by omega
        have yodd : Y % 2 = (v + 1) % 2 := by omega
        rcases hZ with rfl | rfl
        · have : W = Y := by omega
          omega
        · rcases Int.lt_or_le 0 Y with y0 | y0
          · have : W = Y - 1 := by
              rw [← hW, show X - t.2 = (X + 1 - t.2) - 1 by omega, ← Int.emod_sub_emod, hY, Int.emod_eq_of_lt (by omega) (by omega)]
            omega
          · have : Y = 0 := by omega
            omega
    have e : (X - (t.2 + p)) % N = W - p := by
      rw [show X - (t.2 + p) = (X - t.2) - p by omega, ← Int.emod_sub_emod, hW, Int.emod_eq_of_lt (by omega) (by omega)]
    rw [e]; omega
  · intro h x
    obtain ⟨p, hp, h1⟩ := h (x / f)
    obtain ⟨t, ht, rfl⟩ := List.mem_map.mp hp
    refine ⟨t, ht, ?_⟩
    rw [key]
    have h2 := ((iw_pos hN).mp h1).1
    have mr := mod_b (a := x) hf0
    have er := Int.emod_add_mul_ediv x f
    obtain ⟨X, hX⟩ : ∃ X, x / f = X := ⟨_, rfl⟩
    obtain ⟨r, hr⟩ : ∃ r, x % f = r := ⟨_, rfl⟩
    rw [hX] at h2 er
    rw [hr] at mr er
    unfold capI at h2
    simp only at h2
    obtain ⟨q, hq⟩ : ∃ p, prtI v t = p := ⟨_, rfl⟩
    have hpr := pr t
    rw [hq] at h2 hpr ⊢
    have m1 := mod_b (a := X - (t.2 + q) % N) hN
    have wp : N - 2 * q > -1 := by
      rcases Classical.em (N - 2 * q > -1) with k | k
      · exact k
      · rw [if_neg k] at h2; omega
    rw [if_pos wp, Int.sub_emod_emod] at h2
    rw [Int.sub_emod_emod] at m1
    have e : (X - t.2) % N = (X - (t.2 + q)) % N + q := by
      rw [show X - t.2 = (X - (t.2 + q)) + q by omega, ← Int.emod_add_emod, Int.emod_eq_of_lt (by omega) (by omega)]
    have ex : (x - f * t.2) % (f * N) = f * ((X - t.2) % N) + r := by
      rw [← fine_mod hf0 hN mr.1 mr.2]; congr 1; rw [Int.mul_sub]; omega
    refine dst_ge ?_ ?_
    · rw [ex]
      have : f * q ≤ f * ((X - t.2) % N) := Int.mul_le_mul_of_nonneg_left (by omega) (by omega)
      omega
    · rw [ex]
      have : f * ((X - t.2) % N) ≤ f * (N - q - 1) := Int.mul_le_mul_of_nonneg_left (by omega) (by omega)
      rw [Int.mul_sub, Int.mul_one, Int.mul_sub] at this; omega
theorem gd_even {P : Nat} (hP : 0 < P) {qs : List (Int × Int)} {V : List Int} {M : Nat} (hM : M = cbot (prs (qs.map (prR P)) ++ V.map (fun v => Rat.divInt v P))) : ∀ q ∈ qs, (gdQ P M q).1 % 2 = 0 ∧ (gdQ P M q).2 % 2 = 0 := fun q hq => by
  obtain ⟨f, hf, hPf, M0, _, _⟩ := grid_scale hP hM
  have dd := den_dvd_cbot (prs (qs.map (prR P)) ++ V.map (fun v => Rat.divInt v P))
  rw [← hM] at dd
  have inq : Rat.divInt q.1 P ∈ prs (qs.map (prR P)) ++ V.map (fun v => Rat.divInt v P) ∧ Rat.divInt q.2 P ∈ prs (qs.map (prR P)) ++ V.map (fun v => Rat.divInt v P) := by
    constructor <;>
    · refine List.mem_append.mpr (.inl ?_)
      unfold prs
      rw [List.mem_flatMap]
      exact ⟨prR P q, List.mem_map.mpr ⟨q, hq, rfl⟩, by simp [prR]⟩
  have a := (unt_scale hf M0 hPf (q := Rat.divInt q.1 P) rfl (dd _ inq.1)).2
  have b := (unt_scale hf M0 hPf (q := Rat.divInt q.2 P) rfl (dd _ inq.2)).2
  unfold gdQ
  exact ⟨a, even_mod (by omega) (by omega)⟩
theorem grid_caps {P : Nat} (hP : 0 < P) {qs : List (Int × Int)} {V : List Int} {M : Nat} (hM : M = cbot (prs (qs.map (prR P)) ++ V.map (fun v => Rat.divInt v P))) {cs : List (Int × Int)} (hc : ∀ q ∈ cs, q ∈ qs) {U v : Int} (hU : U * P = 2 * v * M) :
    Cov false (2 * M) ((cs.map (gdQ P M)).map (capI (2 * M) U)) ↔ CapsQ P v cs := by
  obtain ⟨f, hf, hPf, M0, _, hq⟩ := grid_scale hP hM
  have ge := gd_even hP hM
  have hv : f * U = 2 * v := by
    have : (f * U) * (M : Int) = (2 * v) * M := by rw [← hU, hPf]; grind
    exact Int.eq_of_mul_eq_mul_right (by omega) this
  rw [← cap_iff_ev hf (by omega) (by omega) (fun t ht => by obtain ⟨q, h1, rfl⟩ := List.mem_map.mp ht; exact ge q (hc q h1))]
  unfold CapAll CapsQ
  refine forall_congr' fun x => ?_
  rw [hv]
  constructor
  · rintro ⟨t, ht, h⟩
    obtain ⟨q, h1, rfl⟩ := List.mem_map.mp ht
    obtain ⟨k1, k2⟩ := hq q (hc q h1)
    refine ⟨q, h1, ?_⟩
    have k3 := k2 x
    simp only [gdQ] at h
    rw [k1, k3] at h
    exact h
  · rintro ⟨q, h1, h⟩
    obtain ⟨k1, k2⟩ := hq q (hc q h1)
    refine ⟨_, List.mem_map.mpr ⟨q, h1, rfl⟩, ?_⟩
    have k3 := k2 x
    simp only [gdQ]
    rw [k1, k3]
    exact h
theorem caps_top {P : Nat} (hP : 0 < P) {rs : List Row} (h0 : rs ≠ []) : CapsQ (2 * P) (maxI ((List.range (2 * (P : Int)).toNat).map fun k : Nat => lw P rs k)) (rs.map gq) := by
  obtain ⟨R, a1, a2, a3⟩ := fine_top hP h0
  rw [reach_same (by omega) h0 a1 a2]
  have e2 : 2 * ((2 * P : Nat) : Int) = 4 * P := by omega
  intro x
  refine Classical.byContradiction fun no => ?_
  have := a3 x (2 * R + 1) fun r hr => by
    have : ¬ 2 * (gq r).1 - dst (2 * ((2 * P : Nat) : Int)) (x + 2 * (gq r).2) ≤ 2 * R := fun k => no ⟨gq r, List.mem_map.mpr ⟨r, hr, rfl⟩, k⟩
    simp only [gq] at this
    rw [e2, show x + 2 * (2 * (r.o + r.b)) = x + 4 * (r.o + r.b) by omega] at this
    omega
  omega
theorem capsQ_same {P : Nat} {V : Int} {A B : List (Int × Int)} (h : ∀ q, q ∈ A → q ∈ B) (k : CapsQ P V A) : CapsQ P V B := fun x => by
  obtain ⟨q, hq, h1⟩ := k x
  exact ⟨q, h q hq, h1⟩
theorem capsQ_congr {P : Nat} {V : Int} {A B : List (Int × Int)} (h : ∀ q, q ∈ A ↔ q ∈ B) : CapsQ P V A ↔ CapsQ P V B := ⟨capsQ_same fun q => (h q).mp, capsQ_same fun q => (h q).mpr⟩
theorem capsQ_ne {P : Nat} {v : Int} {cs : List (Int × Int)} (h : CapsQ P v cs) : cs ≠ [] := by
  rintro rfl
  obtain ⟨q, hq, _⟩ := h 0
  simp at hq
noncomputable def capB (P : Nat) (V : Int) (rs : List Row) : Bool := @decide (rs ≠ [] ∧ CapsQ (2 * P) V (rs.map gq)) (Classical.propDecidable _)
theorem capB_iff {P : Nat} {V : Int} {rs : List Row} : capB P V rs = true ↔ CapsQ (2 * P) V (rs.map gq) := by
  unfold capB
  rw [@decide_eq_true_iff _ (Classical.propDecidable _)]
  exact ⟨fun h => h.2, fun h => ⟨fun e => capsQ_ne h (by rw [e]; rfl), h⟩⟩
/-- the fewest arcs among the indexes are as few as the choices -/
theorem caps_due {P : Nat} {V : Int} {rs : List Row} {r : List Nat} (k1 : CapsQ (2 * P) V (pick (rs.map gq) r)) (k2 : ∀ i ∈ r, i < rs.length) (k4 : ∀ C, CapsQ (2 * P) V (pick (rs.map gq) C) → r.length ≤ C.length) :
    capB P V (pick rs ((List.range rs.length).filter (fun i => decide (i ∈ r)))) = true ∧ (pick rs ((List.range rs.length).filter (fun i => decide (i ∈ r)))).length = r.length ∧ pick rs ((List.range rs.length).filter (fun i => decide (i ∈ r))) ∈ choices rs ∧ ∀ sub ∈ choices rs, capB P V sub = true → r.length ≤ sub.length := by
  have low : ∀ sub ∈ choices rs, capB P V sub = true → r.length ≤ sub.length := fun sub hs hb => by
    obtain ⟨C, h1, h2⟩ := sub_pick ((choices_iff rs sub).mp hs)
    rw [← h2]
    refine k4 C ?_
    rw [pick_map, h1]
    exact capB_iff.mp hb
  have sub := pick_sublist rs (fun i => decide (i ∈ r))
  obtain ⟨C, hC⟩ : ∃ C, (List.range rs.length).filter (fun i => decide (i ∈ r)) = C := ⟨_, rfl⟩
  rw [hC] at sub ⊢
  have inC : ∀ i, i ∈ C ↔ i < rs.length ∧ i ∈ r := fun i => by rw [← hC, List.mem_filter, List.mem_range, decide_eq_true_iff]
  have nd : C.Nodup := by rw [← hC]; exact List.Pairwise.sublist List.filter_sublist List.nodup_range
  have cl : C.length ≤ r.length := List.Nodup.length_le_of_subset nd fun i hi => ((inC i).mp hi).2
  have caps : capB P V (pick rs C) = true := by
    rw [capB_iff, ← pick_map]
    refine capsQ_same (fun q hq => ?_) k1
    obtain ⟨i, hi, h1⟩ := pick_mem.mp hq
    exact pick_mem.mpr ⟨i, (inC i).mpr ⟨k2 i hi, hi⟩, h1⟩
  have mem : pick rs C ∈ choices rs := (choices_iff rs _).mpr sub
  have := low _ mem caps
  have := pick_len rs C
  exact ⟨caps, by omega, mem, low⟩
/-! ### the room of a street at any meeting -/
/-! ### papers of a reach -/
def grtS (q : Rat) : Str := Str.ofString "greatest " ++ wtxt q
theorem grt_len : (Str.ofString "greatest ").length = 9 := by decide +kernel
def OddG (c : Cs) (d : D) : Prop := d = .non ∨ d = .int 1 ∨ d = .str "1/2" ∨ d = .tup [rat c 0] ∨ d = .bl true
theorem oddG_below (c : Cs) {d : D} (h : OddG c d) (n : Nat) : below n d = true := by
  rcases h with rfl | rfl | rfl | rfl | rfl <;> rfl
theorem oddG_isr (c : Cs) {d : D} (h : OddG c d) (m : Mu) : F_is_ratio c [d] m = .ok (.bl false) m := by
  rcases h with rfl | rfl | rfl | rfl | rfl <;> simp [F_is_ratio, env0, ans_Ratio__Ratio, Ans.get, tagOf, primNames]
/-! ### holds of a paper of a reach -/
def NamE (d : D) : Prop := NamD d ∨ d = .bl true
theorem crs_bd {N : Int} (hN : 0 < N) {ts : List Tent} (h : ∀ t ∈ ts, 0 ≤ t.2 ∧ t.2 < N) : ∀ s ∈ crs N ts, 0 ≤ s ∧ s < N := fun s hs => by
  unfold crs at hs
  rcases List.mem_append.mp hs with hs | hs
  · obtain ⟨t, ht, rfl⟩ := List.mem_map.mp hs
    exact h t ht
  · rw [List.mem_flatMap] at hs
    obtain ⟨a, _, hs⟩ := hs
    obtain ⟨b, _, rfl⟩ := List.mem_map.mp hs
    unfold cross1
    exact mod_b hN
/-! ### the starts that fit -/
theorem ar_mk (c : Cs) {P a w : Int} (hP : 0 < P) (hP2 : P < 100) (a0 : -1000 ≤ a) (a1 : a ≤ 1000) (w0 : 0 ≤ w) (w1 : w ≤ P) {m : Mu} (hm : Cl m) :
    mkObj c.cArc m (F_ArcD_initD c [.loc m.length, rat c (Rat.divInt a P), rat c (Rat.divInt w P)] (m ++ [.ins c.cArc []])) = .ok (ar c P (a % P, w)) m := by
  have e := arc_mk c (sz10 (a := a) hP (by omega) a0 a1) (sz10 (a := w) hP (by omega) (by omega) (by omega)) (di_nn hP w0) (di_1 hP w1) hm
  rw [mom_divInt _ hP] at e
  exact e
def swI (P a w s : Int) : List (Int × Int) := if s < w then [] else [((a + w - s) % P, s - w)]
def fitI (P : Int) (r : Row) (a w b v : Int) : List (Int × Int) := if r.s < w ∨ r.s < v then [] else comI P (((a + r.o) % P + w - r.s) % P) (r.s - w) (((b + -r.b) % P + v - r.s) % P) (r.s - v)
/-! ### what fits, by the fine cycle -/
theorem fit_okp {P a w b v : Int} {r : Row} (hr : RowOk P r) (w0 : 0 ≤ w) (v0 : 0 ≤ v) : ∀ p ∈ fitI P r a w b v, Okp P p := by
  have r0 := hr.s0; have r1 := hr.s1
  intro p hp
  unfold fitI at hp
  split at hp
  · simp at hp
  · rename_i z
    have mm1 := mod_b (a := (a + r.o) % P + w - r.s) (n := P) (by omega)
    have mm2 := mod_b (a := (b + -r.b) % P + v - r.s) (n := P) (by omega)
    exact com_okp ⟨mm1.1, mm1.2, by simp only; omega, by simp only; omega⟩ ⟨mm2.1, mm2.2, by simp only; omega, by simp only; omega⟩ p hp
theorem shift_in {P x w s k : Int} (hP : 0 < P) (w0 : 0 ≤ w) (ws : w ≤ s) (s1 : s < P) : inI P k ((x % P + w - s) % P, s - w) = decide ((2 * x - k) % (2 * P) + 2 * w ≤ 2 * s) := by
  unfold inI
  simp only
  rw [decide_eq_decide]
  have t := mod_b (a := 2 * x - k) (n := 2 * P) (by omega)
  have e1 := Int.emod_add_mul_ediv (2 * x - k) (2 * P)
  have e2 := Int.emod_add_mul_ediv (x % P + w - s) P
  have e3 := Int.emod_add_mul_ediv x P
  have key : ∃ q, k - 2 * ((x % P + w - s) % P) = (2 * (s - w) - (2 * x - k) % (2 * P)) + (2 * P) * q := by
    refine ⟨-((2 * x - k) / (2 * P)) + (x % P + w - s) / P + x / P, ?_⟩
    have c1 : (2 * P) * (-((2 * x - k) / (2 * P)) + (x % P + w - s) / P + x / P) = -((2 * P) * ((2 * x - k) / (2 * P))) + 2 * (P * ((x % P + w - s) / P)) + 2 * (P * (x / P)) := by grind
    rw [c1]; omega
  obtain ⟨q, hq⟩ := key
  rw [hq, Int.add_mul_emod_self_left]
  by_cases h : (2 * x - k) % (2 * P) ≤ 2 * (s - w)
  · rw [Int.emod_eq_of_lt (by omega) (by omega)]; omega
  · rw [← Int.add_emod_right, Int.emod_eq_of_lt (by omega) (by omega)]; omega
def dueI (P : Int) (r : Row) (a w b v k : Int) : Bool := decide ((2 * (a + r.o) - k) % (2 * P) + 2 * w ≤ 2 * r.s) && decide ((2 * (b - r.b) - k) % (2 * P) + 2 * v ≤ 2 * r.s)
theorem fit_in {P a w b v k : Int} {r : Row} (hr : RowOk P r) (w0 : 0 ≤ w) (v0 : 0 ≤ v) : ((fitI P r a w b v).filter (inI P k)).length = if dueI P r a w b v k then 1 else 0 := by
  have r0 := hr.s0; have r1 := hr.s1
  have t1 := mod_b (a := 2 * (a + r.o) - k) (n := 2 * P) (by omega)
  have t2 := mod_b (a := 2 * (b - r.b) - k) (n := 2 * P) (by omega)
  unfold fitI dueI
  split
  · rename_i z
    rw [List.filter_nil, List.length_nil, if_neg]
    rw [Bool.and_eq_true, decide_eq_true_iff, decide_eq_true_iff]
    omega
  · rename_i z
    have mm1 := mod_b (a := (a + r.o) % P + w - r.s) (n := P) (by omega)
    have mm2 := mod_b (a := (b + -r.b) % P + v - r.s) (n := P) (by omega)
    rw [com_in (k := k) ⟨mm1.1, mm1.2, by simp only; omega, by simp only; omega⟩ ⟨mm2.1, mm2.2, by simp only; omega, by simp only; omega⟩]
    rw [shift_in (by omega) w0 (by omega) r1, shift_in (by omega) v0 (by omega) r1]
    rfl
theorem fit_len {P a w b v : Int} {r : Row} : (fitI P r a w b v).length ≤ 2 := by
  unfold fitI
  split
  · simp
  · exact com_len
/-! ### papers of a short light -/
theorem findV_str (x : Str) : ∀ (xs : List Str) (j : Nat), xs.Nodup → xs[j]? = some x → findV (.str x) (xs.map V.str) = some j
  | [], j, _, h => by simp at h
  | y :: ys, 0, hn, h => by
    simp at h; subst h
    simp [findV, eqV]
  | y :: ys, j + 1, hn, h => by
    rw [List.nodup_cons] at hn
    have h' : ys[j]? = some x := by simpa using h
    have hne : ¬ y = x := fun e => hn.1 (by rw [e]; exact List.mem_of_getElem? h')
    simp [findV, eqV, hne, findV_str x ys j hn.2 h']
theorem short_len : (Str.ofString "short ").length = 6 := by decide +kernel
/-! ### decide, where a light is too short -/
def isShort (x y : Int) (r : Row) : Bool := decide (r.s < x) || decide (r.s < y)
theorem first_at {α : Type} {p : α → Bool} : ∀ {xs : List α}, xs.any p = true → ∃ pre r post, xs = pre ++ r :: post ∧ p r = true ∧ ∀ a ∈ pre, p a = false
  | [], h => by simp at h
  | a :: xs, h => by
    cases e : p a with
    | true => exact ⟨[], a, xs, rfl, e, by simp⟩
    | false =>
      rw [List.any_cons, e, Bool.false_or] at h
      obtain ⟨pre, r, post, h1, h2, h3⟩ := first_at h
      refine ⟨a :: pre, r, post, by rw [h1]; rfl, h2, fun b hb => ?_⟩
      rcases List.mem_cons.mp hb with rfl | hb
      · exact e
      · exact h3 b hb
/-! ### bands that pass: in parts of a cycle four times as fine -/
def row4 (r : Row) : Row := ⟨r.nm, 4 * r.s, 4 * r.o, 4 * r.b⟩
theorem di4 (a : Int) (P : Nat) : Rat.divInt (4 * a) ((4 * P : Nat) : Int) = Rat.divInt a P := by
  have e : ((4 * P : Nat) : Int) = 4 * P := by omega
  rw [e, Rat.divInt_mul_left (show (4 : Int) ≠ 0 by decide)]
theorem rowL4 (P : Nat) (r : Row) : rowL ((4 * P : Nat) : Int) (row4 r) = rowL P r := by
  unfold rowL row4
  simp only [di4]
theorem row4_ok {P : Nat} {r : Row} (h : RowOk P r) : RowOk ((4 * P : Nat) : Int) (row4 r) := by
  obtain ⟨hn, s0, s1, o0, o1, b0, b1⟩ := h
  refine ⟨hn, ?_, ?_, ?_, ?_, ?_, ?_⟩ <;> simp only [row4] <;> omega
theorem rows4 (P : Nat) (rs : List Row) : (rs.map row4).map (rowL ((4 * P : Nat) : Int)) = rs.map (rowL P) := by
  rw [List.map_map]
  exact List.map_congr_left fun r _ => rowL4 P r
/-! ### a setting that two bands pass -/
def headI (ps : List (Int × Int)) : Int := match ps with
  | [] => 0
  | p :: _ => p.1
def startI (P : Nat) (x o b : Int) (r : Row) : Int := headI (fitI ((4 * P : Nat) : Int) (row4 r) ((-(2 * o)) % ((4 * P : Nat) : Int)) (4 * o) ((-x - 2 * b) % ((4 * P : Nat) : Int)) (4 * b))
/-- where the room is met, each light has a start, and both bands pass -/
theorem fit_ex {P : Nat} (hP : 2 ≤ P) {r : Row} (hr : RowOk P r) {x o b : Int} (o0 : 0 ≤ o) (b0 : 0 ≤ b) (h1 : o ≤ r.s) (h2 : b ≤ r.s) (h3 : 2 * (o + b) ≤ 4 * r.s - dst (4 * P) (x + 4 * (r.o + r.b))) :
    fitI ((4 * P : Nat) : Int) (row4 r) ((-(2 * o)) % ((4 * P : Nat) : Int)) (4 * o) ((-x - 2 * b) % ((4 * P : Nat) : Int)) (4 * b) ≠ [] ∧ dueO ((4 * P : Nat) : Int) (-(2 * o)) (4 * o) (row4 r, startI P x o b r) = true ∧ dueB ((4 * P : Nat) : Int) (-x - 2 * b) (4 * b) (row4 r, startI P x o b r) = true := by
  have r4 := row4_ok hr
  have Q0 : (0 : Int) < ((4 * P : Nat) : Int) := by omega
  have QQ : ((4 * P : Nat) : Int) = 4 * P := by omega
  obtain ⟨Q, hQ⟩ : ∃ Q, ((4 * P : Nat) : Int) = Q := ⟨_, rfl⟩
  unfold startI
  rw [hQ] at r4 Q0 QQ ⊢
  obtain ⟨a, ha⟩ : ∃ a, (-(2 * o)) % Q = a := ⟨_, rfl⟩
  obtain ⟨e, he⟩ : ∃ a, (-x - 2 * b) % Q = a := ⟨_, rfl⟩
  have ea := Int.emod_add_mul_ediv (-(2 * o)) Q
  have ee := Int.emod_add_mul_ediv (-x - 2 * b) Q
  rw [ha] at ea
  rw [he] at ee
  obtain ⟨ka, hka⟩ : ∃ k, (-(2 * o)) / Q = k := ⟨_, rfl⟩
  obtain ⟨ke, hke⟩ : ∃ k, (-x - 2 * b) / Q = k := ⟨_, rfl⟩
  rw [hka] at ea
  rw [hke] at ee
  rw [ha, he]
  have ds : dst (2 * Q) (2 * (a + 4 * r.o) - 2 * (e - 4 * r.b) + 4 * o - 4 * b) = 2 * dst (4 * P) (x + 4 * (r.o + r.b)) := by
    rw [← QQ, ← dst_mul Q0 (by decide)]
    apply dst_mod
    have : 2 * (a + 4 * r.o) - 2 * (e - 4 * r.b) + 4 * o - 4 * b = 2 * (x + 4 * (r.o + r.b)) + (2 * Q) * (ke - ka) := by
      have : (2 * Q) * (ke - ka) = 2 * (Q * ke) - 2 * (Q * ka) := by grind
      omega
    rw [this, Int.add_mul_emod_self_left]
  have s1 := hr.s1
  obtain ⟨k, _, c1, c2⟩ := (two_arcs (W := 2 * Q) (by omega) (a := 2 * (a + 4 * r.o)) (b := 2 * (e - 4 * r.b)) (u := 4 * o) (w := 4 * b) (v := 2 * (4 * r.s)) (by omega) (by omega) (by omega)).mpr ⟨by omega, by omega, by rw [ds]; omega⟩
  have fi := fit_in (k := k) r4 (a := a) (w := 4 * o) (b := e) (v := 4 * b) (by omega) (by omega)
  have du : dueI Q (row4 r) a (4 * o) e (4 * b) k = true := by
    unfold dueI
    rw [Bool.and_eq_true, decide_eq_true_eq, decide_eq_true_eq]
    simp only [row4]
    exact ⟨by omega, by omega⟩
  rw [du, if_pos rfl] at fi
  have okp := fit_okp r4 (a := a) (w := 4 * o) (b := e) (v := 4 * b) (by omega) (by omega)
  have fi2 := fun k => fit_in (k := k) r4 (a := a) (w := 4 * o) (b := e) (v := 4 * b) (by omega) (by omega)
  revert fi okp fi2
  cases fitI Q (row4 r) a (4 * o) e (4 * b) with
  | nil => intro fi; simp at fi
  | cons p t =>
    intro _ okp fi2
    refine ⟨by simp, ?_⟩
    have op := okp p (by simp)
    have f2 := fi2 (2 * p.1)
    have ip : inI Q (2 * p.1) p = true := by
      unfold inI
      rw [decide_eq_true_eq, Int.sub_self]
      have := op.w0
      simp; omega
    have du2 : dueI Q (row4 r) a (4 * o) e (4 * b) (2 * p.1) = true := by
      rcases Bool.eq_false_or_eq_true (dueI Q (row4 r) a (4 * o) e (4 * b) (2 * p.1)) with h | h
      · exact h
      · rw [h, List.filter_cons_of_pos ip] at f2
        simp at f2
    unfold dueI at du2
    rw [Bool.and_eq_true, decide_eq_true_eq, decide_eq_true_eq] at du2
    have dbl : ∀ y : Int, (2 * y) % (2 * Q) = 2 * (y % Q) := fun y => Int.mul_emod_mul_of_pos _ _ (by decide)
    rw [← Int.mul_sub, ← Int.mul_sub, dbl, dbl] at du2
    unfold dueO dueB
    rw [decide_eq_true_eq, decide_eq_true_eq]
    simp only [headI]
    have g1 : (-(2 * o) + (row4 r).o - p.1) % Q = (a + (row4 r).o - p.1) % Q := by
      rw [show -(2 * o) + (row4 r).o - p.1 = (a + (row4 r).o - p.1) + Q * ka by omega, Int.add_mul_emod_self_left]
    have g2 : (-x - 2 * b - (row4 r).b - p.1) % Q = (e - (row4 r).b - p.1) % Q := by
      rw [show -x - 2 * b - (row4 r).b - p.1 = (e - (row4 r).b - p.1) + Q * ke by omega, Int.add_mul_emod_self_left]
    rw [g1, g2]
    exact ⟨.inr (by omega), .inr (by omega)⟩
/-! ### decide, where both bands can pass -/
/-! ### the papers hold -/
theorem zip_two {α β γ : Type} (f : α → β) (g : α → γ) : ∀ xs : List α, (xs.map f).zip (xs.map g) = xs.map fun a => (f a, g a)
  | [] => rfl
  | a :: xs => by rw [List.map_cons, List.map_cons, List.map_cons, List.zip_cons_cons, zip_two f g xs]
theorem at_nmG {α : Type} (g : Row → α) (z : α) : ∀ (rs : List Row), (rs.map Row.nm).Nodup → ∀ r ∈ rs, (rs.map g).getD ((rs.map Row.nm).idxOf r.nm) z = g r
  | [], _, r, h => by simp at h
  | a :: rs, hn, r, h => by
    rw [List.map_cons, List.nodup_cons] at hn
    rcases List.mem_cons.mp h with rfl | h
    · simp [List.idxOf_cons]
    · have ne : (a.nm == r.nm) = false := by
        rw [beq_eq_false_iff_ne]
        intro e; exact hn.1 (by rw [e]; exact List.mem_map.mpr ⟨r, h, rfl⟩)
      have ih := at_nmG g z rs hn.2 r h
      rw [List.map_cons, List.map_cons, List.idxOf_cons, ne]
      simpa using ih
def nmS (rs : List Row) (k : Nat) : Str := (rs.map Row.nm).getD k (Str.ofString "")
theorem nmS_at {rs : List Row} {k : Nat} (h : k < rs.length) : nmS rs k = (rs[k]).nm := by simp [nmS, h]
/-! ### the law's own look at both bands -/
theorem nm_inj {rs : List Row} (hn : (rs.map Row.nm).Nodup) {i k : Nat} (hi : i < rs.length) (hk : k < rs.length) (e : (rs[i]).nm = (rs[k]).nm) : i = k := by
  have h := List.pairwise_iff_getElem.mp hn
  rcases Nat.lt_trichotomy i k with z | z | z
  · exact absurd (by rw [List.getElem_map, List.getElem_map]; exact e) (h i k (by simpa using hi) (by simpa using hk) z)
  · exact z
  · exact absurd (by rw [List.getElem_map, List.getElem_map]; exact e.symm) (h k i (by simpa using hk) (by simpa using hi) z)
theorem pick_filter {α : Type} {xs : List α} {Q : α → Bool} {p : Nat → Bool} (h : ∀ i x, xs[i]? = some x → Q x = p i) : ∀ l : List Nat, (pick xs l).filter Q = pick xs (l.filter p)
  | [] => rfl
  | i :: l => by
    have ih := pick_filter h l
    unfold pick at ih ⊢
    cases e : xs[i]? with
    | none =>
      rw [List.filterMap_cons, e]
      cases hp : p i with
      | true => rw [List.filter_cons_of_pos hp, List.filterMap_cons, e]; exact ih
      | false => rw [List.filter_cons_of_neg (by simp [hp])]; exact ih
    | some x =>
      have hq := h i x e
      rw [List.filterMap_cons, e]
      cases hp : p i with
      | true => rw [List.filter_cons_of_pos hp, List.filterMap_cons, e]; exact (List.filter_cons_of_pos (by rw [hq, hp])).trans (congrArg (x :: ·) ih)
      | false => rw [List.filter_cons_of_neg (a := i) (by simp [hp])]; exact (List.filter_cons_of_neg (by simp [hq, hp])).trans ih
theorem held_pick {rs : List Row} (hn : (rs.map Row.nm).Nodup) {r : List Nat} (hr : ∀ k ∈ r, k < rs.length) : rs.filter (fun x => decide (x.nm ∈ r.map (nmS rs))) = pick rs ((List.range rs.length).filter (fun i => decide (i ∈ r))) := by
  rw [← pick_filter (Q := fun x : Row => decide (x.nm ∈ r.map (nmS rs))) (p := fun i => decide (i ∈ r)) (fun i x hx => by
    obtain ⟨hi, rfl⟩ := List.getElem?_eq_some_iff.mp hx
    rw [Bool.eq_iff_iff, decide_eq_true_eq, decide_eq_true_eq, List.mem_map]
    constructor
    · rintro ⟨k, hk, e⟩
      rw [nmS_at (hr k hk)] at e
      rw [← nm_inj hn (hr k hk) hi e]; exact hk
    · intro h
      exact ⟨i, h, nmS_at hi⟩), pick_range]
/-! ### the law's look at a paper -/
end W

set_option maxHeartbeats 4000000
namespace W
open PySem PySem.Spec L2 DL
def cfD : Option (List Nat) → D
  | none => .non
  | some r => .int r.length
/-! ### the arc that goes on farthest -/
def mxF (W x : Int) (b : Int) (p : Int × Int) : Int := if b < p.2 - (x - p.1) % W then p.2 - (x - p.1) % W else b
theorem iw_f {W x : Int} {p : Int × Int} (h : 0 ≤ p.2) : iw false W x p = if p.2 - (x - p.1) % W > 0 then p.2 - (x - p.1) % W else 0 := by
  unfold iw
  rw [if_neg (by simp; omega)]
theorem mx_ge {W x : Int} : ∀ (A : List (Int × Int)) (b : Int), b ≤ A.foldl (mxF W x) b ∧ (∀ p ∈ A, p.2 - (x - p.1) % W ≤ A.foldl (mxF W x) b) ∧ (A.foldl (mxF W x) b = b ∨ ∃ p ∈ A, A.foldl (mxF W x) b = p.2 - (x - p.1) % W)
  | [], b => ⟨Int.le_refl _, by simp, .inl rfl⟩
  | a :: A, b => by
    obtain ⟨h1, h2, h3⟩ := mx_ge (W := W) (x := x) A (mxF W x b a)
    rw [List.foldl_cons]
    have k : b ≤ mxF W x b a ∧ a.2 - (x - a.1) % W ≤ mxF W x b a ∧ (mxF W x b a = b ∨ mxF W x b a = a.2 - (x - a.1) % W) := by unfold mxF; split <;> omega
    refine ⟨by omega, fun p hp => ?_, ?_⟩
    · rcases List.mem_cons.mp hp with rfl | hp
      · omega
      · exact h2 p hp
    · rcases h3 with e | ⟨p, hp, e⟩
      · rcases k.2.2 with z | z
        · exact .inl (by omega)
        · exact .inr ⟨a, by simp, by omega⟩
      · exact .inr ⟨p, by simp [hp], e⟩
theorem mx_max {W x : Int} {A : List (Int × Int)} (h0 : A ≠ []) (hp : ∀ p ∈ A, 0 ≤ p.2) : A.foldl (mxF W x) 0 = maxI (A.map (iw false W x)) := by
  obtain ⟨h1, h2, h3⟩ := mx_ge (W := W) (x := x) A 0
  obtain ⟨m1, m2⟩ := maxI_ok (ns := A.map (iw false W x)) (by simpa using List.length_pos_iff.mpr h0)
  apply Int.le_antisymm
  · rcases h3 with e | ⟨p, hpm, e⟩
    · rw [e]
      obtain ⟨p, hpm⟩ := List.exists_mem_of_ne_nil _ h0
      exact Int.le_trans (iw_nn (op := false) (W := W) (x := x) (p := p)) (m2 _ (List.mem_map.mpr ⟨p, hpm, rfl⟩))
    · have := m2 _ (List.mem_map.mpr ⟨p, hpm, rfl⟩)
      rw [iw_f (hp p hpm)] at this
      split at this <;> omega
  · obtain ⟨p, hpm, e⟩ := List.mem_map.mp m1
    rw [← e, iw_f (hp p hpm)]
    have := h2 p hpm
    split <;> omega
/-! ### a cover from a first arc -/
theorem inner_ok (c : Cs) {P : Int} (hP : 0 < P) (hP2 : P < 100) {x : Int} (x0 : 0 ≤ x) (x1 : x ≤ 400) {m : Mu} (hm : Cl m) (q0 q1 q2 q3 : Option D) : ∀ (A : List (Int × Int)), (∀ p ∈ A, Okp P p) → ∀ (b : Int), 0 ≤ b → b ≤ P → ∀ (q6 q7 : Option D), ∃ q6' q7',
    dLoop (dName 6) (B_cover_from_1 c) (A.map (ar c P)) [q0, q1, q2, q3, some (rat c (Rat.divInt x P)), some (rat c (Rat.divInt b P)), q6, q7] m = .nx [q0, q1, q2, q3, some (rat c (Rat.divInt x P)), some (rat c (Rat.divInt (A.foldl (mxF P x) b) P)), q6', q7'] m
  | [], _, b, _, _, q6, q7 => ⟨q6, q7, rfl⟩
  | p :: A, h, b, b0, b1, q6, q7 => by
    have hp := h p (by simp)
    have mo := mod_b (a := x - p.1) hP
    have ho := arc_offset c (s := Rat.divInt p.1 P) (w := Rat.divInt p.2 P) (t := Rat.divInt x P) (sz10 (a := p.1) hP (by omega) (by have := hp.a0; omega) (by have := hp.a1; omega)) (sz10 (a := x) hP (by omega) (by omega) (by omega)) hm
    have ho : F_Arc_offset c [ar c P p, rat c (Rat.divInt x P)] m = .ok (rat c (mom (Rat.divInt x P - Rat.divInt p.1 P))) m := ho
    rw [di_sub, mom_divInt _ hP] at ho
    have hw := arc_width c (Rat.divInt p.1 P) (Rat.divInt p.2 P) m
    have hw : F_Arc_width c [ar c P p] m = .ok (rat c (Rat.divInt p.2 P)) m := hw
    have w0 := hp.w0
    have w1 := hp.w1
    have su := sub_ok c (sz10 (a := p.2) hP (by omega) (by omega) (by omega)) (sz10 (a := (x - p.1) % P) hP (by omega) (by omega) (by omega)) hm
    rw [di_sub] at su
    have be := below_ok c (m := m) (sz10 (a := b) hP (by omega) (by omega) (by omega)) (sz10 (a := p.2 - (x - p.1) % P) hP (by omega) (by omega) (by omega))
    rw [show decide (Rat.divInt b P < Rat.divInt (p.2 - (x - p.1) % P) P) = decide (b < p.2 - (x - p.1) % P) from by simp only [di_lt hP]] at be
    have nb : 0 ≤ mxF P x b p ∧ mxF P x b p ≤ P := by unfold mxF; split <;> omega
    obtain ⟨q6', q7', ih⟩ := inner_ok c hP hP2 x0 x1 hm q0 q1 q2 q3 A (fun q hq => h q (by simp [hq])) (mxF P x b p) nb.1 nb.2 (some (ar c P p)) (some (rat c (Rat.divInt (p.2 - (x - p.1) % P) P)))
    refine ⟨q6', q7', ?_⟩
    rw [List.map_cons, List.foldl_cons]
    refine (dLoop_step (e1 := [q0, q1, q2, q3, some (rat c (Rat.divInt x P)), some (rat c (Rat.divInt b P)), some (ar c P p), q7]) (by simp) ?_).trans ih
    have iA : insOf m (ar c P p) = some (c.kArc.a, c.kArc.ns, [rat c (Rat.divInt p.1 P), rat c (Rat.divInt p.2 P)]) := rfl
    have ir : ∀ q : Rat, insOf m (rat c q) = some (c.kRatio.a, c.kRatio.ns, [.int q.num, .int q.den]) := fun _ => rfl
    obtain ⟨AP, hAP⟩ : ∃ A, ar c P p = A := ⟨_, rfl⟩
    obtain ⟨V, hV⟩ : ∃ v, p.2 - (x - p.1) % P = v := ⟨_, rfl⟩
    rw [hV] at su be
    unfold mxF
    rw [hV]
    obtain ⟨QX, hQX⟩ : ∃ q, Rat.divInt x P = q := ⟨_, rfl⟩
    obtain ⟨QB, hQB⟩ : ∃ q, Rat.divInt b P = q := ⟨_, rfl⟩
    obtain ⟨QV, hQV⟩ : ∃ q, Rat.divInt V P = q := ⟨_, rfl⟩
    obtain ⟨QW, hQW⟩ : ∃ q, Rat.divInt p.2 P = q := ⟨_, rfl⟩
    obtain ⟨QO, hQO⟩ : ∃ q, Rat.divInt ((x - p.1) % P) P = q := ⟨_, rfl⟩
    rw [hAP, hQX, hQO] at ho
    rw [hAP, hQW] at hw
    rw [hQW, hQO, hQV] at su
    rw [hQB, hQV] at be
    rw [hAP, hQW] at iA
    rw [hAP]
    by_cases z : b < V
    · simp [z] at be
      simp [B_cover_from_1_ap, iA, hw, ho, hQX, su, ir, hQB, hQV, be, z]
    · simp [z] at be
      simp [B_cover_from_1_ap, iA, hw, ho, hQX, su, ir, hQB, hQV, be, z]
theorem rng_cons (lo : Int) (n : Nat) : rngD lo (n + 1) = .int lo :: rngD (lo + 1) n := by
  unfold rngD
  rw [List.range_succ_eq_map, List.map_cons, List.map_map]
  congr 1
  · simp
  · refine List.map_congr_left fun k _ => ?_
    simp only [Function.comp_def]
    congr 1
    omega
theorem outer_step (c : Cs) {P : Int} (hP : 0 < P) (hP2 : P < 100) {A : List (Int × Int)} (ok : ∀ p ∈ A, Okp P p) (h0 : A ≠ []) {arcs : D} (ha : arcs = .lst (A.map (ar c P)) ∨ arcs = .tup (A.map (ar c P))) {p : Int × Int} (hp : Okp P p) {cov : Int} (c0 : 0 ≤ cov) (c1 : cov < P) (k : Nat) {m : Mu} (hm : Cl m) (q4 q5 q6 q7 : Option D) :
    (maxI (A.map (iw false P ((p.1 + cov) % P))) = 0 → B_cover_from_2 c [some arcs, some (ar c P p), some (rat c (Rat.divInt cov P)), some (.int k), q4, q5, q6, q7] m = .rt .non m) ∧
    (maxI (A.map (iw false P ((p.1 + cov) % P))) ≠ 0 → ∃ q4' q5' q6' q7', B_cover_from_2 c [some arcs, some (ar c P p), some (rat c (Rat.divInt cov P)), some (.int k), q4, q5, q6, q7] m = .nx [some arcs, some (ar c P p), some (rat c (Rat.divInt (cov + maxI (A.map (iw false P ((p.1 + cov) % P)))) P)), some (.int k), q4', q5', q6', q7'] m) := by
  have a0 := hp.a0
  have a1 := hp.a1
  have im : A.map (iw false P ((p.1 + cov) % P)) = A.map (iw false P (p.1 + cov)) := List.map_congr_left fun q _ => iw_mod
  rw [im, ← mx_max h0 (fun q hq => (ok q hq).w0)]
  obtain ⟨q6', q7', il⟩ := inner_ok c hP hP2 (x := p.1 + cov) (by omega) (by omega) hm (some arcs) (some (ar c P p)) (some (rat c (Rat.divInt cov P))) (some (.int k)) A ok 0 (by omega) (by omega) q6 q7
  have mg := mx_ge (W := P) (x := p.1 + cov) A 0
  have mb : 0 ≤ A.foldl (mxF P (p.1 + cov)) 0 ∧ A.foldl (mxF P (p.1 + cov)) 0 ≤ P := by
    refine ⟨mg.1, ?_⟩
    rcases mg.2.2 with e | ⟨q, hq, e⟩
    · omega
    · have := (ok q hq).w1
      have := mod_b (a := p.1 + cov - q.1) hP
      omega
  obtain ⟨B, hB⟩ : ∃ b, A.foldl (mxF P (p.1 + cov)) 0 = b := ⟨_, rfl⟩
  rw [hB] at il mb ⊢
  rw [di_zero] at il
  have r1 := rmk1 c (a := 1) hm (k := 0)
  simp only [Rat.intCast_one] at r1
  have r0 := rmk1 c (a := 0) hm (k := 0)
  simp only [Rat.intCast_zero] at r0
  have be := below_ok c (m := m) (sz10 (a := cov) hP (by omega) (by omega) (by omega)) (sz10 (a := P) hP (by omega) (by omega) (by omega))
  rw [di_self hP, show decide (Rat.divInt cov P < 1) = true from by rw [decide_eq_true_eq, ← di_self hP, di_lt hP]; exact c1] at be
  have st := arc_start c (Rat.divInt p.1 P) (Rat.divInt p.2 P) m
  have st : F_Arc_start c [ar c P p] m = .ok (rat c (Rat.divInt p.1 P)) m := st
  have ad := add_ok c (sz10 (a := p.1) hP (by omega) (by omega) (by omega)) (sz10 (a := cov) hP (by omega) (by omega) (by omega)) hm
  rw [di_add] at ad
  have bo := bool_ok c (Rat.divInt B P) m
  have ad2 := add_ok c (sz10 (a := cov) hP (by omega) (by omega) (by omega)) (sz10 (a := B) hP (by omega) (by omega) (by omega)) hm
  rw [di_add] at ad2
  have nz : ((Rat.divInt B P).num != 0) = decide (B ≠ 0) := by
    rw [Bool.eq_iff_iff, bne_iff_ne, decide_eq_true_eq]
    exact not_congr (by rw [Rat.num_eq_zero, ← di_zero P, di_inj hP])
  rw [nz] at bo
  have iA : insOf m (ar c P p) = some (c.kArc.a, c.kArc.ns, [rat c (Rat.divInt p.1 P), rat c (Rat.divInt p.2 P)]) := rfl
  have ir : ∀ q : Rat, insOf m (rat c q) = some (c.kRatio.a, c.kRatio.ns, [.int q.num, .int q.den]) := fun _ => rfl
  obtain ⟨AP, hAP⟩ : ∃ A, ar c P p = A := ⟨_, rfl⟩
  obtain ⟨AS, hAS⟩ : ∃ X, A.map (ar c P) = X := ⟨_, rfl⟩
  rw [hAP] at st iA il
  rw [hAS] at ha il
  rw [hAP]
  obtain ⟨Q1, h1⟩ : ∃ q, Rat.divInt p.1 P = q := ⟨_, rfl⟩
  obtain ⟨Q2, h2⟩ : ∃ q, Rat.divInt cov P = q := ⟨_, rfl⟩
  obtain ⟨Q3, h3⟩ : ∃ q, Rat.divInt (p.1 + cov) P = q := ⟨_, rfl⟩
  obtain ⟨Q4, h4⟩ : ∃ q, Rat.divInt B P = q := ⟨_, rfl⟩
  obtain ⟨Q5, h5⟩ : ∃ q, Rat.divInt (cov + B) P = q := ⟨_, rfl⟩
  obtain ⟨Q6, h6⟩ : ∃ q, Rat.divInt p.2 P = q := ⟨_, rfl⟩
  rw [h1] at st
  rw [h1, h6] at iA
  rw [h1, h2, h3] at ad
  rw [h2] at be
  rw [h2, h3, h4] at il
  rw [h4] at bo
  rw [h2, h4, h5] at ad2
  rw [h2, h5]
  rcases ha with rfl | rfl
  · constructor
    · intro z
      simp [z] at bo
      simp [B_cover_from_2_ap, r1, be, ir, iA, st, ad, r0, orA, il, bo]
    · intro z
      simp [z] at bo
      exact ⟨some (rat c Q3), some (rat c Q4), q6', q7', by simp [B_cover_from_2_ap, r1, be, ir, iA, st, ad, r0, orA, il, bo, ad2]⟩
  · constructor
    · intro z
      simp [z] at bo
      simp [B_cover_from_2_ap, r1, be, ir, iA, st, ad, r0, orA, il, bo]
    · intro z
      simp [z] at bo
      exact ⟨some (rat c Q3), some (rat c Q4), q6', q7', by simp [B_cover_from_2_ap, r1, be, ir, iA, st, ad, r0, orA, il, bo, ad2]⟩
theorem outer_end (c : Cs) {P : Int} (hP : 0 < P) (hP2 : P < 100) {cov : Int} (c0 : P ≤ cov) (c1 : cov ≤ 300) (arcs first : D) (k : Nat) {m : Mu} (hm : Cl m) (q4 q5 q6 q7 : Option D) :
    B_cover_from_2 c [some arcs, some first, some (rat c (Rat.divInt cov P)), some (.int k), q4, q5, q6, q7] m = .rt (.int k) m := by
  have r1 := rmk1 c (a := 1) hm (k := 0)
  simp only [Rat.intCast_one] at r1
  have be := below_ok c (m := m) (sz10 (a := cov) hP (by omega) (by omega) (by omega)) (sz10 (a := P) hP (by omega) (by omega) (by omega))
  rw [di_self hP, show decide (Rat.divInt cov P < 1) = false from by rw [decide_eq_false_iff_not, ← di_self hP, di_lt hP]; omega] at be
  have ir : ∀ q : Rat, insOf m (rat c q) = some (c.kRatio.a, c.kRatio.ns, [.int q.num, .int q.den]) := fun _ => rfl
  obtain ⟨Q2, h2⟩ : ∃ q, Rat.divInt cov P = q := ⟨_, rfl⟩
  rw [h2] at be ⊢
  simp [B_cover_from_2_ap, r1, be, ir]
theorem rt_glue {g : DG} {b : DS} {d : D} {ds : List D} {e e1 : En} {m : Mu} {v : D} (h1 : g d e = some e1) (h2 : b e1 m = .rt v m) : dLoop g b (d :: ds) e m = .rt v m := by
  simp [dLoop, h1, h2]
theorem cwGo_done {P : Int} {A : List (Int × Int)} {a cov : Int} {n : Nat} {found : List Nat} (h : P ≤ cov) : cwGo false P A a (n + 1) cov found = some found := by
  unfold cwGo
  rw [if_pos (by simp; omega)]
theorem cwGo_go {P : Int} {A : List (Int × Int)} {a cov B : Int} {n J : Nat} {found : List Nat} (h : ¬ P ≤ cov) (hB : maxI (A.map (iw false P ((a + cov) % P))) = B) (hJ : (A.map (iw false P ((a + cov) % P))).idxOf B = J) : cwGo false P A a (n + 1) cov found = if B = 0 then none else cwGo false P A a n (cov + B) (found ++ [J]) := by
  conv => lhs; unfold cwGo
  rw [if_neg (by simp; omega), hB, hJ]
/-- how the loop ends -/
def LpEnd (R : RS) (m : Mu) (g : Option (List Nat)) : Prop := R = .rt (cfD g) m ∨ ∃ e', R = .nx e' m ∧ g = none
theorem lp_nil {g : DG} {b : DS} {e : En} {m : Mu} {lo : Int} : LpEnd (dLoop g b (rngD lo 0) e m) m none := .inr ⟨e, rfl, rfl⟩
theorem lp_done {g : DG} {b : DS} {lo : Int} {n : Nat} {e e1 : En} {m : Mu} {found : List Nat} (hl : lo = found.length) (h1 : g (.int lo) e = some e1) (h2 : b e1 m = .rt (.int found.length) m) : LpEnd (dLoop g b (rngD lo (n + 1)) e m) m (some found) := by
  rw [rng_cons]
  exact .inl (rt_glue h1 h2)
theorem lp_none {g : DG} {b : DS} {lo : Int} {n : Nat} {e e1 : En} {m : Mu} (h1 : g (.int lo) e = some e1) (h2 : b e1 m = .rt .non m) : LpEnd (dLoop g b (rngD lo (n + 1)) e m) m none := by
  rw [rng_cons]
  exact .inl (rt_glue h1 h2)
theorem lp_go {g : DG} {b : DS} {lo : Int} {n : Nat} {e e1 e2 : En} {m : Mu} {r : Option (List Nat)} (h1 : g (.int lo) e = some e1) (h2 : b e1 m = .nx e2 m) (h3 : LpEnd (dLoop g b (rngD (lo + 1) n) e2 m) m r) : LpEnd (dLoop g b (rngD lo (n + 1)) e m) m r := by
  rw [rng_cons, dLoop_step h1 h2]
  exact h3
theorem nm3 (a b c1 : Option D) (q3 q4 q5 q6 q7 : Option D) (d : D) : dName 3 d [a, b, c1, q3, q4, q5, q6, q7] = some [a, b, c1, some d, q4, q5, q6, q7] := rfl
theorem best_bd {P : Int} (hP : 0 < P) {A : List (Int × Int)} (ok : ∀ p ∈ A, Okp P p) (h0 : A ≠ []) (x : Int) : 0 ≤ maxI (A.map (iw false P x)) ∧ maxI (A.map (iw false P x)) ≤ P := by
  obtain ⟨m1, _⟩ := maxI_ok (ns := A.map (iw false P x)) (by simpa using List.length_pos_iff.mpr h0)
  obtain ⟨q, hq, e⟩ := List.mem_map.mp m1
  rw [← e]
  refine ⟨iw_nn, ?_⟩
  rw [iw_f (ok q hq).w0]
  have := (ok q hq).w1
  have := mod_b (a := x - q.1) hP
  split <;> omega
def OuterP (c : Cs) (P : Int) (A : List (Int × Int)) (arcs : D) (p : Int × Int) (m : Mu) (n : Nat) : Prop := ∀ (cov : Int) (found : List Nat), 0 ≤ cov → cov ≤ 2 * P → ∀ (q3 q4 q5 q6 q7 : Option D),
    LpEnd (dLoop (dName 3) (B_cover_from_2 c) (rngD found.length n) [some arcs, some (ar c P p), some (rat c (Rat.divInt cov P)), q3, q4, q5, q6, q7] m) m (cwGo false P A p.1 n cov found)
theorem outer_zero (c : Cs) {P : Int} {A : List (Int × Int)} {arcs : D} {p : Int × Int} {m : Mu} : OuterP c P A arcs p m 0 := fun _ _ _ _ _ _ _ _ _ => lp_nil
theorem outer_succ (c : Cs) {P : Int} (hP : 0 < P) (hP2 : P < 100) {A : List (Int × Int)} (ok : ∀ p ∈ A, Okp P p) (h0 : A ≠ []) {arcs : D} (ha : arcs = .lst (A.map (ar c P)) ∨ arcs = .tup (A.map (ar c P))) {p : Int × Int} (hp : Okp P p) {m : Mu} (hm : Cl m) {n : Nat} (ih : OuterP c P A arcs p m n) : OuterP c P A arcs p m (n + 1) := by
  intro cov found c0 c1 q3 q4 q5 q6 q7
  by_cases h : P ≤ cov
  · rw [cwGo_done h]
    exact lp_done rfl (nm3 _ _ _ _ _ _ _ _ _) (outer_end c hP hP2 h (by omega) arcs (ar c P p) found.length hm q4 q5 q6 q7)
  · obtain ⟨s1, s2⟩ := outer_step c hP hP2 ok h0 ha hp c0 (by omega) found.length hm q4 q5 q6 q7
    have mb := best_bd hP ok h0 ((p.1 + cov) % P)
    obtain ⟨B, hB⟩ : ∃ B, maxI (A.map (iw false P ((p.1 + cov) % P))) = B := ⟨_, rfl⟩
    obtain ⟨J, hJ⟩ : ∃ J, (A.map (iw false P ((p.1 + cov) % P))).idxOf B = J := ⟨_, rfl⟩
    rw [hB] at s1 s2 mb
    rw [cwGo_go h hB hJ]
    by_cases z : B = 0
    · rw [if_pos z]
      exact lp_none (nm3 _ _ _ _ _ _ _ _ _) (s1 z)
    · obtain ⟨q4', q5', q6', q7', e⟩ := s2 z
      rw [if_neg z]
      have k := ih (cov + B) (found ++ [J]) (by omega) (by omega) (some (.int found.length)) q4' q5' q6' q7'
      have hl : (((found ++ [J]).length : Nat) : Int) = (found.length : Int) + 1 := by simp
      rw [hl] at k
      exact lp_go (nm3 _ _ _ _ _ _ _ _ _) e k
theorem outer_all (c : Cs) {P : Int} (hP : 0 < P) (hP2 : P < 100) {A : List (Int × Int)} (ok : ∀ p ∈ A, Okp P p) (h0 : A ≠ []) {arcs : D} (ha : arcs = .lst (A.map (ar c P)) ∨ arcs = .tup (A.map (ar c P))) {p : Int × Int} (hp : Okp P p) {m : Mu} (hm : Cl m) : ∀ n, OuterP c P A arcs p m n
  | 0 => outer_zero c
  | n + 1 => outer_succ c hP hP2 ok h0 ha hp hm (outer_all c hP hP2 ok h0 ha hp hm n)
theorem cover_from_ok' (c : Cs) {P : Int} (hP : 0 < P) (hP2 : P < 100) {A : List (Int × Int)} (ok : ∀ p ∈ A, Okp P p) (hl : A.length ≤ 100) {arcs : D} (ha : arcs = .lst (A.map (ar c P)) ∨ arcs = .tup (A.map (ar c P))) {i : Nat} {p : Int × Int} (hi : A[i]? = some p) {m : Mu} (hm : Cl m) :
    F_cover_from c [arcs, ar c P p] m = .ok (cfD (cw false P A i)) m := by
  have hz : sizeLine = 16777216 := rfl
  have pm : p ∈ A := List.mem_of_getElem? hi
  have h0 : A ≠ [] := List.ne_nil_of_mem pm
  have hp := ok p pm
  have w0 := hp.w0
  have w1 := hp.w1
  have k := outer_all c hP hP2 ok h0 ha hp hm A.length p.2 [i] w0 (by omega) none none none none none
  obtain ⟨R, l⟩ : ∃ R, dLoop (dName 3) (B_cover_from_2 c) (rngD (([i] : List Nat).length : Int) A.length) [some arcs, some (ar c P p), some (rat c (Rat.divInt p.2 P)), none, none, none, none, none] m = R := ⟨_, rfl⟩
  rw [l] at k
  unfold LpEnd at k
  have g : cw false P A i = cwGo false P A p.1 A.length p.2 [i] := by
    unfold cw
    rw [hi]
    dsimp only
    rw [if_neg (by simp; omega)]
  rw [← g] at k
  have hw := arc_width c (Rat.divInt p.1 P) (Rat.divInt p.2 P) m
  have hw : F_Arc_width c [ar c P p] m = .ok (rat c (Rat.divInt p.2 P)) m := hw
  have iA : insOf m (ar c P p) = some (c.kArc.a, c.kArc.ns, [rat c (Rat.divInt p.1 P), rat c (Rat.divInt p.2 P)]) := rfl
  have rr : rngD 1 A.length = rngD (([i] : List Nat).length : Int) A.length := rfl
  rw [← rr] at l
  obtain ⟨AP, hAP⟩ : ∃ A, ar c P p = A := ⟨_, rfl⟩
  obtain ⟨AS, hAS⟩ : ∃ X, A.map (ar c P) = X := ⟨_, rfl⟩
  obtain ⟨Q6, h6⟩ : ∃ q, Rat.divInt p.2 P = q := ⟨_, rfl⟩
  obtain ⟨Q1, h1⟩ : ∃ q, Rat.divInt p.1 P = q := ⟨_, rfl⟩
  rw [hAP, h6] at hw l
  rw [hAP, h1, h6] at iA
  rw [hAS] at ha
  rw [hAP]
  obtain ⟨G, hG⟩ : ∃ g, cw false P A i = g := ⟨_, rfl⟩
  rw [hG] at k ⊢
  obtain ⟨J, hJ⟩ : ∃ j : Int, (A.length : Int) = j := ⟨_, rfl⟩
  have nn : J.toNat = A.length := by omega
  have b1 : -4611686018427387904 ≤ J + 1 := by omega
  have b2 : J + 1 < 4611686018427387904 := by omega
  have al : ((AS.length : Nat) : Int) = J := by rw [← hAS, List.length_map]; exact hJ
  have gl1 : gLen [.lst AS] m = .ok (.int J) m := by rw [← al]; rfl
  have gl2 : gLen [.tup AS] m = .ok (.int J) m := by rw [← al]; rfl
  have it : dItR2 (dCons (dC (.int 1)) (dCons (dBin gAdd (dFun gLen (dCons (dVar 0) dNil)) (dC (.int 1))) dNil)) [some arcs, some AP, some (rat c Q6), none, none, none, none, none] m = .ok (rngD 1 A.length) m := by
    have e : gLen [arcs] m = .ok (.int J) m := by rcases ha with rfl | rfl <;> assumption
    simp [-gLen_ap, e, b1, b2, nn]
  rcases k with rfl | ⟨e', rfl, rfl⟩
  · simp [F_cover_from, env0, iA, hw, -dItR2_ap, it, l, cfD]
  · simp [F_cover_from, env0, iA, hw, -dItR2_ap, it, l, cfD]
/-! ### the fewest arcs -/
theorem fi_iff {W : Int} {A : List (Int × Int)} : (fiI false W A = none ↔ ∀ i < A.length, cw false W A i = none) ∧ ∀ r, fiI false W A = some r → (∃ i < A.length, cw false W A i = some r) ∧ ∀ i < A.length, ∀ f, cw false W A i = some f → r.length ≤ f.length := by
  obtain ⟨h1, h2⟩ := fi_fold (op := false) (W := W) (A := A) (List.range A.length) none
  constructor
  · constructor
    · intro h i hi
      cases e : cw false W A i with
      | none => rfl
      | some f =>
        obtain ⟨r, e2, _⟩ := h2 f (.inr ⟨i, List.mem_range.mpr hi, e⟩)
        have e2 : fiI false W A = some r := e2
        rw [h] at e2; cases e2
    · intro h
      cases e : fiI false W A with
      | none => rfl
      | some r =>
        rcases h1 r e with z | ⟨i, hi, e2⟩
        · cases z
        · rw [h i (List.mem_range.mp hi)] at e2; cases e2
  · intro r e
    refine ⟨?_, fun i hi f ef => ?_⟩
    · rcases h1 r e with z | ⟨i, hi, e2⟩
      · cases z
      · exact ⟨i, List.mem_range.mp hi, e2⟩
    · obtain ⟨r', e2, l⟩ := h2 f (.inr ⟨i, List.mem_range.mpr hi, ef⟩)
      have e2 : fiI false W A = some r' := e2
      rw [e] at e2; cases e2
      exact l
/-- the sizes told by the arcs -/
def szL (W : Int) (A : List (Int × Int)) : List Int := (List.range A.length).filterMap fun i => (cw false W A i).map fun r => (r.length : Int)
theorem szL_min {W : Int} {A : List (Int × Int)} : (if szL W A = [] then D.non else .int (minI (szL W A))) = cfD (fiI false W A) := by
  obtain ⟨k1, k2⟩ := fi_iff (W := W) (A := A)
  have mem : ∀ z : Int, z ∈ szL W A ↔ ∃ i < A.length, ∃ r, cw false W A i = some r ∧ (r.length : Int) = z := fun z => by
    unfold szL
    rw [List.mem_filterMap]
    constructor
    · rintro ⟨i, hi, e⟩
      obtain ⟨r, e1, e2⟩ := Option.map_eq_some_iff.mp e
      exact ⟨i, List.mem_range.mp hi, r, e1, e2⟩
    · rintro ⟨i, hi, r, e1, e2⟩
      exact ⟨i, List.mem_range.mpr hi, by rw [e1]; exact congrArg some e2⟩
  cases e : fiI false W A with
  | none =>
    have h := k1.mp e
    have : szL W A = [] := List.eq_nil_iff_forall_not_mem.mpr fun z hz => by
      obtain ⟨i, hi, r, e1, _⟩ := (mem z).mp hz
      rw [h i hi] at e1; cases e1
    rw [if_pos this]; rfl
  | some r =>
    obtain ⟨⟨i, hi, e1⟩, low⟩ := k2 r e
    have hm : (r.length : Int) ∈ szL W A := (mem _).mpr ⟨i, hi, r, e1, rfl⟩
    have ne : szL W A ≠ [] := List.ne_nil_of_mem hm
    rw [if_neg ne]
    obtain ⟨m1, m2⟩ := minI_ok (ns := szL W A) (List.length_pos_iff.mpr ne)
    have a := m2 _ hm
    obtain ⟨j, hj, f, e2, e3⟩ := (mem _).mp m1
    have b := low j hj f e2
    show D.int _ = D.int _
    congr 1
    omega
theorem cfD_int (o : Option (List Nat)) : cfD o = .non ∨ ∃ k : Nat, cfD o = .int k := by
  cases o with
  | none => exact .inl rfl
  | some r => exact .inr ⟨_, rfl⟩
theorem fewest_cover_ok (c : Cs) {P : Int} (hP : 0 < P) (hP2 : P < 100) {A : List (Int × Int)} (ok : ∀ p ∈ A, Okp P p) (hl : A.length ≤ 100) {arcs : D} (ha : arcs = .lst (A.map (ar c P)) ∨ arcs = .tup (A.map (ar c P))) {m : Mu} (hm : Cl m) :
    F_fewest_cover c [arcs] m = .ok (cfD (fiI false P A)) m := by
  have hz : sizeLine = 16777216 := rfl
  have cf : ∀ i (h : i < A.length), F_cover_from c [arcs, ar c P A[i]] m = .ok (cfD (cw false P A i)) m := fun i h => cover_from_ok' c hP hP2 ok hl ha (List.getElem?_eq_getElem h) hm
  have c1 := compL_of (g := dName 2) (c := dYes) (b := C_fewest_cover_1 c) (e := [some arcs, none, none, none]) (m := m) (F := fun i : Nat => ar c P (A.getD i (0, 0))) (f := fun i : Nat => cfD (cw false P A i)) (p := fun _ => true) (List.range A.length) [] (fun i hi => ⟨[some arcs, none, some (ar c P (A.getD i (0, 0))), none], by simp, by simp, fun _ => by
    have hi := List.mem_range.mp hi
    have e := cf i hi
    rw [List.getD_eq_getElem?_getD, List.getElem?_eq_getElem hi, Option.getD_some]
    obtain ⟨AP, hAP⟩ : ∃ a, ar c P A[i] = a := ⟨_, rfl⟩
    rw [hAP] at e ⊢
    simp [C_fewest_cover_1_ap, e]⟩) (by simp; omega)
  rw [filt_true, List.nil_append] at c1
  have am : (List.range A.length).map (fun i : Nat => ar c P (A.getD i (0, 0))) = A.map (ar c P) := by
    apply List.ext_getElem
    · simp
    · intro i h1 h2
      have hi : i < A.length := by simpa using h2
      rw [List.getElem_map, List.getElem_map, List.getElem_range, List.getD_eq_getElem?_getD, List.getElem?_eq_getElem hi, Option.getD_some]
  rw [am] at c1
  obtain ⟨KS, hKS⟩ : ∃ k, (List.range A.length).map (fun i : Nat => cfD (cw false P A i)) = k := ⟨_, rfl⟩
  have c2 := compL_of (g := dName 3) (c := dTst (dBin gNotN (dVar 3) (dC .non))) (b := dFun gInt (dCons (dVar 3) dNil)) (e := [some arcs, some (.lst KS), none, none]) (m := m) (F := fun i : Nat => cfD (cw false P A i)) (f := fun i : Nat => cfD (cw false P A i)) (p := fun i => (cw false P A i).isSome) (List.range A.length) [] (fun i hi => ⟨[some arcs, some (.lst KS), none, some (cfD (cw false P A i))], by simp, by
    cases cw false P A i with
    | none => simp [cfD]
    | some r => simp [cfD], fun h => by
    revert h
    cases cw false P A i with
    | none => intro h; cases h
    | some r => intro _; simp [cfD]⟩) (by simp; omega)
  rw [List.nil_append, hKS] at c2
  have e2 : ((List.range A.length).filter fun i => (cw false P A i).isSome).map (fun i : Nat => cfD (cw false P A i)) = (szL P A).map .int := by
    unfold szL
    generalize List.range A.length = l
    induction l with
    | nil => rfl
    | cons i l ih =>
      cases e : cw false P A i with
      | none => rw [List.filter_cons_of_neg (by simp [e]), List.filterMap_cons, e]; exact ih
      | some r => rw [List.filter_cons_of_pos (by simp [e]), List.filterMap_cons, e, List.map_cons, ih, e]; rfl
  rw [e2] at c2
  rw [hKS] at c1
  have ti : toIs ((szL P A).map .int) = some (szL P A) := by
    have := toIs_map (fun i : Int => i) (szL P A)
    simpa using this
  have sm := szL_min (W := P) (A := A)
  obtain ⟨AS, hAS⟩ : ∃ X, A.map (ar c P) = X := ⟨_, rfl⟩
  rw [hAS] at ha c1
  obtain ⟨Z, hZ⟩ : ∃ X, szL P A = X := ⟨_, rfl⟩
  rw [hZ] at c2 ti sm
  obtain ⟨ZD, hZD⟩ : ∃ X, Z.map D.int = X := ⟨_, rfl⟩
  rw [hZD] at c2 ti
  rw [← sm]
  have fin : gMinDf [.lst ZD] [.non] m = .ok (if Z = [] then D.non else .int (minI Z)) m := by
    rw [gMinDf_ap]
    show (match (some ZD).bind toIs with | some [] => _ | some (n :: ns) => _ | none => _) = _
    rw [show (some ZD).bind toIs = toIs ZD from rfl, ti]
    cases Z with
    | nil => rfl
    | cons a z => rfl
  rcases ha with rfl | rfl
  · simp [F_fewest_cover, env0, orA, wipeE, c1, c2, -gMinDf_ap, fin]
  · simp [F_fewest_cover, env0, orA, wipeE, c1, c2, -gMinDf_ap, fin]
theorem cov_sup {op : Bool} {W : Int} {X Y : List (Int × Int)} (h : Cov op W X) (k : ∀ x ∈ X, x ∈ Y) : Cov op W Y := fun x => by
  obtain ⟨p, hp, h1⟩ := h x
  exact ⟨p, k p hp, h1⟩
theorem arcs_idx {B : List (Int × Int)} : ∀ xs : List (Int × Int), (∀ x ∈ xs, x ∈ B) → ∃ C : List Nat, arcsOf B C = xs ∧ C.length = xs.length
  | [], _ => ⟨[], rfl, rfl⟩
  | x :: xs, h => by
    obtain ⟨C, h1, h2⟩ := arcs_idx xs fun y hy => h y (by simp [hy])
    obtain ⟨i, hi⟩ := List.getElem?_of_mem (h x (by simp))
    refine ⟨i :: C, ?_, by simp [h2]⟩
    unfold arcsOf at h1 ⊢
    rw [List.filterMap_cons, hi]
    exact congrArg (x :: ·) h1
theorem arcs_len {A : List (Int × Int)} : ∀ C : List Nat, (∀ i ∈ C, i < A.length) → (arcsOf A C).length = C.length
  | [], _ => rfl
  | i :: C, h => by
    have ih := arcs_len C fun j hj => h j (by simp [hj])
    unfold arcsOf at ih ⊢
    rw [List.filterMap_cons, List.getElem?_eq_getElem (h i (by simp)), List.length_cons, List.length_cons, ih]
theorem arcs_sub {A : List (Int × Int)} {C : List Nat} : ∀ x ∈ arcsOf A C, x ∈ A := fun x hx => by
  obtain ⟨i, _, h⟩ := mem_arcsOf.mp hx
  exact List.mem_of_getElem? h
theorem sz_le {W : Int} (hW : 0 < W) {A B : List (Int × Int)} (hA : ∀ p ∈ A, p.2 ≤ W) (hB : ∀ p ∈ B, p.2 ≤ W) (h : ∀ x ∈ A, x ∈ B) {r : List Nat} (hr : fiI false W A = some r) : ∃ r', fiI false W B = some r' ∧ r'.length ≤ r.length := by
  obtain ⟨k1, k2, _, _⟩ := fi_some hW hA hr
  obtain ⟨r', e⟩ := fi_ex hW hB (cov_sup k1 fun x hx => h x (arcs_sub x hx))
  obtain ⟨C, c1, c2⟩ := arcs_idx (B := B) (arcsOf A r) fun x hx => h x (arcs_sub x hx)
  have := (fi_some hW hB e).2.2.2 C (by rw [c1]; exact k1)
  rw [c2, arcs_len r k2] at this
  exact ⟨r', e, this⟩
theorem sz_same {W : Int} (hW : 0 < W) {A B : List (Int × Int)} (hA : ∀ p ∈ A, p.2 ≤ W) (hB : ∀ p ∈ B, p.2 ≤ W) (h : ∀ x, x ∈ A ↔ x ∈ B) : cfD (fiI false W A) = cfD (fiI false W B) := by
  cases e : fiI false W A with
  | none =>
    cases e2 : fiI false W B with
    | none => rfl
    | some r =>
      obtain ⟨r', e3, _⟩ := sz_le hW hB hA (fun x hx => (h x).mpr hx) e2
      rw [e] at e3; cases e3
  | some r =>
    obtain ⟨r', e3, l⟩ := sz_le hW hA hB (fun x hx => (h x).mp hx) e
    obtain ⟨r2, e4, l2⟩ := sz_le hW hB hA (fun x hx => (h x).mpr hx) e3
    rw [e] at e4; cases e4
    rw [e3]
    show D.int _ = D.int _
    congr 1
    omega
/-! ### what the law looks at -/
def covT (P : Nat) (sub : List (Int × Int)) : Bool := (List.range (2 * P)).all fun k : Nat => sub.any fun p => decide (((k : Int) - 2 * p.1) % (2 * P) ≤ 2 * p.2)
theorem covT_iff {P : Nat} (hP : 0 < P) {sub : List (Int × Int)} : covT P sub = true ↔ Cov false P sub := by
  unfold covT
  rw [List.all_eq_true]
  constructor
  · intro h X
    have m := mod_b (a := 2 * X + 1) (n := 2 * (P : Int)) (by omega)
    have k := h ((2 * X + 1) % (2 * P)).toNat (List.mem_range.mpr (by omega))
    rw [List.any_eq_true] at k
    obtain ⟨p, hp, k⟩ := k
    rw [decide_eq_true_eq] at k
    rw [show ((((2 * X + 1) % (2 * (P : Int))).toNat : Nat) : Int) = (2 * X + 1) % (2 * P) by omega, Int.emod_sub_emod, show 2 * X + 1 - 2 * p.1 = 2 * (X - p.1) + 1 by omega, fine_mod (by decide) (by omega) (by decide) (by decide)] at k
    refine ⟨p, hp, ?_⟩
    rw [iw_pos (by omega)]
    exact ⟨by omega, by intro z; cases z⟩
  · intro h k hk
    obtain ⟨p, hp, h1⟩ := h ((k : Int) / 2)
    rw [iw_pos (by omega)] at h1
    rw [List.any_eq_true]
    refine ⟨p, hp, ?_⟩
    rw [decide_eq_true_eq]
    have e := Int.emod_add_mul_ediv (k : Int) 2
    have mr := mod_b (a := (k : Int)) (n := 2) (by decide)
    rw [show (k : Int) - 2 * p.1 = 2 * ((k : Int) / 2 - p.1) + (k : Int) % 2 by omega, fine_mod (by decide) (by omega) mr.1 mr.2]
    omega
def sizesC (P : Nat) (A : List (Int × Int)) : List Int := ((choices A).filter (covT P)).map fun sub => (sub.length : Int)
theorem due_ok {P : Nat} (hP : 0 < P) {A : List (Int × Int)} (hA : ∀ p ∈ A, p.2 ≤ P) : (if sizesC P A = [] then D.non else .int (minI (sizesC P A))) = cfD (fiI false P A) := by
  have hW : (0 : Int) < P := by omega
  cases e : fiI false P A with
  | none =>
    have : sizesC P A = [] := by
      unfold sizesC
      rw [List.map_eq_nil_iff, List.filter_eq_nil_iff]
      intro sub hs hc
      obtain ⟨r, e2⟩ := fi_ex hW hA (cov_sup ((covT_iff hP).mp hc) fun x hx => ((choices_iff A sub).mp hs).subset hx)
      rw [e] at e2; cases e2
    rw [if_pos this]; rfl
  | some r =>
    obtain ⟨k1, k2, _, k4⟩ := fi_some hW hA e
    have low : ∀ sub ∈ choices A, covT P sub = true → r.length ≤ sub.length := fun sub hs hc => by
      obtain ⟨C, c1, c2⟩ := sub_pick ((choices_iff A sub).mp hs)
      rw [← c2]
      exact k4 C (by rw [arcsOf_pick, c1]; exact (covT_iff hP).mp hc)
    have sub := pick_sublist A (fun i => decide (i ∈ r))
    obtain ⟨C, hC⟩ : ∃ C, (List.range A.length).filter (fun i => decide (i ∈ r)) = C := ⟨_, rfl⟩
    rw [hC] at sub
    have inC : ∀ i, i ∈ C ↔ i < A.length ∧ i ∈ r := fun i => by rw [← hC, List.mem_filter, List.mem_range, decide_eq_true_iff]
    have nd : C.Nodup := by rw [← hC]; exact List.Pairwise.sublist List.filter_sublist List.nodup_range
    have cl : C.length ≤ r.length := List.Nodup.length_le_of_subset nd fun i hi => ((inC i).mp hi).2
    have cv : covT P (pick A C) = true := by
      rw [covT_iff hP]
      refine cov_sup k1 fun x hx => ?_
      obtain ⟨i, hi, h1⟩ := mem_arcsOf.mp hx
      exact pick_mem.mpr ⟨i, (inC i).mpr ⟨k2 i hi, hi⟩, h1⟩
    have mem : pick A C ∈ choices A := (choices_iff A _).mpr sub
    have l1 := low _ mem cv
    have l2 := pick_len A C
    have hm : (r.length : Int) ∈ sizesC P A := List.mem_map.mpr ⟨pick A C, List.mem_filter.mpr ⟨mem, cv⟩, by omega⟩
    have ne : sizesC P A ≠ [] := List.ne_nil_of_mem hm
    rw [if_neg ne]
    obtain ⟨m1, m2⟩ := minI_ok (ns := sizesC P A) (List.length_pos_iff.mpr ne)
    have a := m2 _ hm
    obtain ⟨s2, h2, e2⟩ := List.mem_map.mp m1
    have h2 := List.mem_filter.mp h2
    have b := low s2 h2.1 h2.2
    show D.int _ = D.int _
    congr 1
    omega
def tpD (p : Int × Int) : D := .tup [.int p.1, .int p.2]
theorem tp_plP (p : Int × Int) : plP 2 (tpD p) := by
  show ∀ d ∈ [D.int p.1, D.int p.2], plP 1 d
  intro d hd
  simp only [List.mem_cons, List.not_mem_nil, or_false] at hd
  rcases hd with rfl | rfl <;> trivial
theorem test_ok (c : Cs) {P : Nat} (hP : 2 ≤ P) (hP2 : P ≤ 20) {sub : List (Int × Int)} (hl : sub.length ≤ 100) (hb : ∀ p ∈ sub, -1000 ≤ p.1 ∧ p.1 ≤ 1000 ∧ -1000 ≤ p.2 ∧ p.2 ≤ 1000) (m : Mu) (x0 x1 x2 x4 x5 x8 x9 x12 x13 x14 : Option D) :
    dFun gAll (dCons (dComp (dItR1 (dCons (dBin gMul (dC (.int 2)) (dVar 3)) dNil)) (dName 11) dYes (C_law_5 c) [11]) dNil) [x0, x1, x2, some (.int P), x4, x5, none, none, x8, x9, some (.lst (sub.map tpD)), none, x12, x13, x14] m = .ok (.bl (covT P sub)) m := by
  have hz : sizeLine = 16777216 := rfl
  have i1 := mul2 (a := (P : Int)) (by omega) (by omega)
  have l1 : -4611686018427387904 ≤ 2 * (P : Int) := by omega
  have l2 : 2 * (P : Int) < 4611686018427387904 := by omega
  have one : ∀ k : Nat, C_law_5 c [x0, x1, x2, some (.int P), x4, x5, none, none, x8, x9, some (.lst (sub.map tpD)), some (.int k), x12, x13, x14] m = .ok (.bl (sub.any fun p => decide (((k : Int) - 2 * p.1) % (2 * P) ≤ 2 * p.2))) m := fun k => by
    have q := compL_of (g := dTupG 2 (dGcons (dName 6) (dGcons (dName 7) dGnil))) (c := dYes) (b := C_law_4 c) (e := [x0, x1, x2, some (.int P), x4, x5, none, none, x8, x9, some (.lst (sub.map tpD)), some (.int k), x12, x13, x14]) (m := m) (F := tpD) (f := fun p => .bl (decide (((k : Int) - 2 * p.1) % (2 * P) ≤ 2 * p.2))) (p := fun _ => true) sub [] (fun p hp => ⟨[x0, x1, x2, some (.int P), x4, x5, some (.int p.1), some (.int p.2), x8, x9, some (.lst (sub.map tpD)), some (.int k), x12, x13, x14], by simp [tpD], by simp, fun _ => by
      obtain ⟨b1, b2, b3, b4⟩ := hb p hp
      have e := isin_ok c k (2 * p.1) (2 * p.2) (2 * P) (by omega) m
      have j1 := mul2 (a := p.1) (by omega) (by omega)
      have j2 := mul2 (a := p.2) (by omega) (by omega)
      simp [C_law_4_ap, i1, j1, j2, e]⟩) (by simp; omega)
    rw [filt_true, List.nil_append] at q
    have tb := toBs_mapA (fun p : Int × Int => decide (((k : Int) - 2 * p.1) % (2 * P) ≤ 2 * p.2)) sub
    have an : ((sub.map fun p => decide (((k : Int) - 2 * p.1) % (2 * P) ≤ 2 * p.2)).any _root_.id) = sub.any fun p => decide (((k : Int) - 2 * p.1) % (2 * P) ≤ 2 * p.2) := by rw [List.any_map]; rfl
    obtain ⟨SD, hSD⟩ : ∃ A, sub.map tpD = A := ⟨_, rfl⟩
    obtain ⟨B1, hB1⟩ : ∃ A, (sub.map fun p => D.bl (decide (((k : Int) - 2 * p.1) % (2 * P) ≤ 2 * p.2))) = A := ⟨_, rfl⟩
    obtain ⟨B2, hB2⟩ : ∃ A, (sub.map fun p => decide (((k : Int) - 2 * p.1) % (2 * P) ≤ 2 * p.2)) = A := ⟨_, rfl⟩
    rw [hSD, hB1] at q
    rw [hB1, hB2] at tb
    rw [hB2] at an
    rw [hSD, ← an]
    simp [C_law_5_ap, wipeE, q, tb, -List.any_map]
  have q := comp_rng (g := dName 11) (cc := dYes) (b := C_law_5 c) (e := [x0, x1, x2, some (.int P), x4, x5, none, none, x8, x9, some (.lst (sub.map tpD)), none, x12, x13, x14]) (m := m) (2 * (P : Int)).toNat (fun k => .bl (sub.any fun p => decide (((k : Int) - 2 * p.1) % (2 * P) ≤ 2 * p.2))) (fun k hk => ⟨[x0, x1, x2, some (.int P), x4, x5, none, none, x8, x9, some (.lst (sub.map tpD)), some (.int k), x12, x13, x14], by simp, by simp, one k⟩) (by omega)
  have nn : (2 * (P : Int)).toNat = 2 * P := by omega
  rw [nn] at q
  have tb := toBs_mapA (fun k : Nat => sub.any fun p => decide (((k : Int) - 2 * p.1) % (2 * P) ≤ 2 * p.2)) (List.range (2 * P))
  have al : ((List.range (2 * P)).map fun k : Nat => sub.any fun p => decide (((k : Int) - 2 * p.1) % (2 * P) ≤ 2 * p.2)).all _root_.id = covT P sub := by rw [List.all_map]; rfl
  obtain ⟨B1, hB1⟩ : ∃ A, ((List.range (2 * P)).map fun k : Nat => D.bl (sub.any fun p => decide (((k : Int) - 2 * p.1) % (2 * P) ≤ 2 * p.2))) = A := ⟨_, rfl⟩
  obtain ⟨B2, hB2⟩ : ∃ A, ((List.range (2 * P)).map fun k : Nat => sub.any fun p => decide (((k : Int) - 2 * p.1) % (2 * P) ≤ 2 * p.2)) = A := ⟨_, rfl⟩
  rw [hB1, hB2] at tb
  rw [hB1] at q
  rw [hB2] at al
  rw [← al]
  obtain ⟨SD, hSD⟩ : ∃ A, sub.map tpD = A := ⟨_, rfl⟩
  rw [hSD] at q ⊢
  obtain ⟨RG, hRG⟩ : ∃ A, rngD 0 (2 * P) = A := ⟨_, rfl⟩
  rw [hRG] at q
  have nr : rngD 0 (2 * (P : Int)).toNat = RG := by rw [nn, hRG]
  simp [i1, l1, l2, nr, wipeE, q, tb, -List.all_map]
theorem size_ok (c : Cs) {P : Nat} (hP : 2 ≤ P) (hP2 : P ≤ 20) {sub : List (Int × Int)} (hl : sub.length ≤ 100) (hb : ∀ p ∈ sub, -1000 ≤ p.1 ∧ p.1 ≤ 1000 ∧ -1000 ≤ p.2 ∧ p.2 ≤ 1000) {M : Mu} {ns : List Int} (hn : ns.length ≤ 10000) (x0 x1 x2 x4 x5 x8 x12 x13 x14 : Option D) :
    B_law_1 c [x0, x1, x2, some (.int P), x4, x5, none, none, x8, some (.loc M.length), some (.lst (sub.map tpD)), none, x12, x13, x14] (M ++ [.lst (ns.map .int)]) =
    .nx [x0, x1, x2, some (.int P), x4, x5, none, none, x8, some (.loc M.length), some (.lst (sub.map tpD)), none, x12, x13, x14] (M ++ [.lst ((ns ++ if covT P sub = true then [(sub.length : Int)] else []).map .int)]) := by
  have hz : sizeLine = 16777216 := rfl
  have ne := gNe_lnil (m := M ++ [.lst (ns.map .int)]) (x := .lst (sub.map tpD)) (ds := sub.map tpD) (n := 2) rfl (fun d hd => by obtain ⟨p, _, rfl⟩ := List.mem_map.mp hd; exact tp_plP p)
  have te := test_ok c hP hP2 hl hb (M ++ [.lst (ns.map .int)]) x0 x1 x2 x4 x5 x8 (some (.loc M.length)) x12 x13 x14
  have sl : (sub.map tpD).length = sub.length := by simp
  have nl : (ns.map D.int).length < 16777216 := by simp; omega
  have ap : ∀ z : D, (ns.map D.int) ++ [z] = (ns.map D.int) ++ [z] := fun _ => rfl
  have g1 : (M ++ [Mo.lst (ns.map D.int)])[M.length]? = some (.lst (ns.map .int)) := by simp
  have g2 : ∀ z : List D, (M ++ [Mo.lst (ns.map D.int)]).set M.length (.lst z) = M ++ [.lst z] := fun z => by simp
  by_cases h0 : sub = []
  · subst h0
    have cf : covT P [] = false := by
      unfold covT
      rw [List.all_eq_false]
      exact ⟨0, List.mem_range.mpr (by omega), by simp⟩
    rw [cf]
    simp only [List.map_nil, decide_true, Bool.not_true] at ne ⊢
    simp [B_law_1_ap, ne]
  · have h0' : (sub.map tpD = []) = False := by simpa using h0
    simp only [h0', decide_false, Bool.not_false] at ne
    obtain ⟨SD, hSD⟩ : ∃ A, sub.map tpD = A := ⟨_, rfl⟩
    obtain ⟨NS, hNS⟩ : ∃ A, ns.map D.int = A := ⟨_, rfl⟩
    rw [List.map_append]
    rw [hSD] at ne te sl
    rw [hNS] at ne te nl g1 g2
    rw [hSD, hNS]
    obtain ⟨MM, hMM⟩ : ∃ A, M ++ [Mo.lst NS] = A := ⟨_, rfl⟩
    rw [hMM] at ne te g1 g2
    rw [hMM]
    cases hc : covT P sub with
    | true =>
      rw [hc] at te
      have ss : D.int (SD.length : Int) = .int (sub.length : Int) := by rw [sl]
      rw [if_pos rfl, B_law_1_ap]
      generalize (dFun gAll (dCons (dComp (dItR1 (dCons (dBin gMul (dC (.int 2)) (dVar 3)) dNil)) (dName 11) dYes (C_law_5 c) [11]) dNil)) = G at te ⊢
      simp [ne, te, g1, g2, nl, sl, hz]
    | false =>
      rw [hc] at te
      rw [if_neg (by decide), B_law_1_ap]
      generalize (dFun gAll (dCons (dComp (dItR1 (dCons (dBin gMul (dC (.int 2)) (dVar 3)) dNil)) (dName 11) dYes (C_law_5 c) [11]) dNil)) = G at te ⊢
      simp [ne, te, hMM]
theorem two_tp {Q : Int × Int → Prop} : ∀ {ds xs : List D}, Two (fun _ x => ∃ p, x = tpD p ∧ Q p) ds xs → ∃ ps : List (Int × Int), xs = ps.map tpD ∧ (∀ p ∈ ps, Q p) ∧ ps.length = ds.length
  | _, _, .nil => ⟨[], rfl, (fun q hq => nomatch hq), rfl⟩
  | _, _, .cons ⟨p, e, h⟩ t => by
    obtain ⟨ps, e2, h2, h3⟩ := two_tp t
    refine ⟨p :: ps, by rw [e, e2]; rfl, fun q hq => ?_, by simp [h3]⟩
    rcases List.mem_cons.mp hq with rfl | hq
    · exact h
    · exact h2 q hq
/-- the sizes that are told, one row behind another -/
def szF (P : Nat) (rows : List (List (Int × Int))) (ns : List Int) : List Int := rows.foldl (fun ns sub => ns ++ if covT P sub = true then [(sub.length : Int)] else []) ns
theorem szF_eq (P : Nat) : ∀ (rows : List (List (Int × Int))) (ns : List Int), szF P rows ns = ns ++ (rows.filter (covT P)).map fun sub => (sub.length : Int)
  | [], ns => by simp [szF]
  | r :: rows, ns => by
    have ih := szF_eq P rows (ns ++ if covT P r = true then [(r.length : Int)] else [])
    unfold szF at ih ⊢
    rw [List.foldl_cons, ih]
    cases h : covT P r with
    | true => rw [if_pos rfl, List.filter_cons_of_pos h]; simp
    | false => rw [if_neg (by decide), List.filter_cons_of_neg (by simp [h])]; simp
theorem rows_loop (c : Cs) {P : Nat} (hP : 2 ≤ P) (hP2 : P ≤ 20) {M : Mu} (x0 x1 x2 x4 x5 x8 x12 x13 x14 : Option D) : ∀ (rows : List (List (Int × Int))) (ns : List Int), (∀ sub ∈ rows, sub.length ≤ 100 ∧ ∀ p ∈ sub, -1000 ≤ p.1 ∧ p.1 ≤ 1000 ∧ -1000 ≤ p.2 ∧ p.2 ≤ 1000) → ns.length + rows.length ≤ 10000 → ∀ (x10 : Option D), ∃ y10,
    dLoop (dName 10) (B_law_1 c) (rows.map (rowsD tpD)) [x0, x1, x2, some (.int P), x4, x5, none, none, x8, some (.loc M.length), x10, none, x12, x13, x14] (M ++ [.lst (ns.map .int)]) = .nx [x0, x1, x2, some (.int P), x4, x5, none, none, x8, some (.loc M.length), y10, none, x12, x13, x14] (M ++ [.lst ((szF P rows ns).map .int)])
  | [], ns, _, _, x10 => ⟨x10, rfl⟩
  | r :: rows, ns, h, hl, x10 => by
    have hr := h r (by simp)
    have s := size_ok c hP hP2 hr.1 hr.2 (M := M) (ns := ns) (by simp at hl; omega) x0 x1 x2 x4 x5 x8 x12 x13 x14
    have nl : (ns ++ if covT P r = true then [(r.length : Int)] else []).length + rows.length ≤ 10000 := by
      simp at hl
      split <;> simp <;> omega
    obtain ⟨y10, ih⟩ := rows_loop c hP hP2 (M := M) x0 x1 x2 x4 x5 x8 x12 x13 x14 rows (ns ++ if covT P r = true then [(r.length : Int)] else []) (fun q hq => h q (by simp [hq])) nl (some (rowsD tpD r))
    refine ⟨y10, ?_⟩
    rw [List.map_cons]
    exact (dLoop_step (e1 := [x0, x1, x2, some (.int P), x4, x5, none, none, x8, some (.loc M.length), some (rowsD tpD r), none, x12, x13, x14]) (by simp) s).trans ih
def I12 (x0 : Option D) (e : En) (m : Mu) : Prop := (∃ x2 x3 x4 x8 x9 x10 x12 x14, e = [x0, some (.loc 0), x2, x3, x4, none, none, none, x8, x9, x10, none, x12, none, x14]) ∧ BagOk m ∧ Cl m
theorem body_ok (c : Cs) (x0 : Option D) (d : D) (e : En) (m : Mu) (hi : I12 x0 e m) : ∃ e1 e2 m2, dName 2 d e = some e1 ∧ B_law_2 c e1 m = .nx e2 m2 ∧ I12 x0 e2 m2 := by
  have hz : sizeLine = 16777216 := rfl
  obtain ⟨⟨x2, x3, x4, x8, x9, x10, x12, x14, rfl⟩, hb, hc⟩ := hi
  obtain ⟨u, m1, e1, u0, u1, g1⟩ := take_ok c hb (n := 9) (by decide) (by decide)
  obtain ⟨P, hPn⟩ : ∃ P : Nat, 2 + u = (P : Int) := ⟨(2 + u).toNat, by omega⟩
  have hP : 2 ≤ P := by omega
  have hP2 : P ≤ 20 := by omega
  have b1 := g1.bag hb
  have c1 := g1.cl hc
  obtain ⟨n, m2, e2, n0, n1, g2⟩ := take_ok c b1 (n := 8) (by decide) (by decide)
  have b2 := g2.bag b1
  have hn : (n.toNat : Int) = n := by omega
  have dP : divOk (P : Int) 2 = true := divOk_of (by decide) (by decide)
  have fd : (P : Int).fdiv 2 = (P : Int) / 2 := Int.fdiv_eq_ediv_of_nonneg _ (by decide)
  obtain ⟨xs, m3, e3, tw, g3⟩ := comp_draw (g := dName 5) (cc := dYes) (b := C_law_1 c) (e := [x0, some (.loc 0), some d, some (.int P), x4, none, none, none, x8, x9, x10, none, x12, none, x14]) (fun _ x => ∃ p : Int × Int, x = tpD p ∧ (0 ≤ p.1 ∧ p.1 < P ∧ 0 ≤ p.2 ∧ p.2 ≤ P + 1)) (rngD 0 n.toNat) [] m2 b2 (fun dk hk m hb => by
    obtain ⟨s, m', e, s0, s1, g⟩ := take_ok c hb (n := (P : Int)) (by omega) (by omega)
    have hb' := g.bag hb
    obtain ⟨t, m'', e', t0, t1, g'⟩ := take_ok c hb' (n := 3) (by decide) (by decide)
    have hb'' := g'.bag hb'
    by_cases ht : 0 < t
    · obtain ⟨w, m3, e3, w0, w1, g3⟩ := take_ok c hb'' (n := (P : Int) + 1) (by omega) (by omega)
      exact ⟨[x0, some (.loc 0), some d, some (.int P), x4, some dk, none, none, x8, x9, x10, none, x12, none, x14], tpD (s, w), m3, by simp, by simp, by simp [C_law_1_ap, e, e', ht, e3, hz, tpD], ⟨_, rfl, s0, s1, w0, by dsimp only; omega⟩, (g.trans g').trans g3⟩
    · exact ⟨[x0, some (.loc 0), some d, some (.int P), x4, some dk, none, none, x8, x9, x10, none, x12, none, x14], tpD (s, (P : Int) / 2 + 1), m'', by simp, by simp, by simp [C_law_1_ap, e, e', ht, dP, fd, hz, tpD], ⟨_, rfl, s0, s1, by dsimp only; omega, by dsimp only; omega⟩, g.trans g'⟩) (by unfold rngD; simp; omega)
  rw [List.nil_append] at e3
  obtain ⟨ps, rfl, pb, pl⟩ := two_tp tw
  have pl : ps.length ≤ 7 := by rw [pl]; unfold rngD; simp; omega
  have b3 := g3.bag b2
  have c3 := g3.cl (g2.cl c1)
  -- widths of at most the cycle
  obtain ⟨A, hA⟩ : ∃ A : List (Int × Int), ps.map (fun p => (p.1, if (P : Int) < p.2 then (P : Int) else p.2)) = A := ⟨_, rfl⟩
  have ok : ∀ p ∈ A, Okp P p := fun p hp => by
    rw [← hA] at hp
    obtain ⟨q, hq, rfl⟩ := List.mem_map.mp hp
    obtain ⟨h1, h2, h3, h4⟩ := pb q hq
    refine ⟨h1, h2, ?_, ?_⟩ <;> dsimp only <;> split <;> omega
  have al : A.length ≤ 7 := by rw [← hA]; simpa using pl
  have w1 : ∀ p ∈ A, p.2 ≤ (P : Int) := fun p hp => (ok p hp).w1
  have e4 := compL_of (g := dTupG 2 (dGcons (dName 6) (dGcons (dName 7) dGnil))) (c := dYes) (b := C_law_2 c) (e := [x0, some (.loc 0), some d, some (.int P), some (.lst (ps.map tpD)), none, none, none, x8, x9, x10, none, x12, none, x14]) (m := m3) (F := tpD) (f := fun p => tpD (p.1, if (P : Int) < p.2 then (P : Int) else p.2)) (p := fun _ => true) ps [] (fun p hp => ⟨[x0, some (.loc 0), some d, some (.int P), some (.lst (ps.map tpD)), none, some (.int p.1), some (.int p.2), x8, x9, x10, none, x12, none, x14], by simp [tpD], by simp, fun _ => by
    by_cases z : (P : Int) < p.2
    · simp [C_law_2_ap, z, hz, tpD]
    · simp [C_law_2_ap, z, hz, tpD]⟩) (by simp; omega)
  rw [filt_true, List.nil_append, show (ps.map fun p => tpD (p.1, if (P : Int) < p.2 then (P : Int) else p.2)) = A.map tpD by rw [← hA, List.map_map]; rfl] at e4
  have e5 := compL_of (g := dTupG 2 (dGcons (dName 6) (dGcons (dName 7) dGnil))) (c := dYes) (b := C_law_3 c) (e := [x0, some (.loc 0), some d, some (.int P), some (.lst (A.map tpD)), none, none, none, x8, x9, x10, none, x12, none, x14]) (m := m3) (F := tpD) (f := ar c P) (p := fun _ => true) A [] (fun p hp => ⟨[x0, some (.loc 0), some d, some (.int P), some (.lst (A.map tpD)), none, some (.int p.1), some (.int p.2), x8, x9, x10, none, x12, none, x14], by simp [tpD], by simp, fun _ => by
    have o := ok p hp
    have a0 := o.a0
    have a1 := o.a1
    have w0 := o.w0
    have w1 := o.w1
    have P0 : (0 : Int) < P := by omega
    have r1 := rmk c (a := p.1) (b := (P : Int)) (k := 20) (by omega) (Bi.lt (by omega) (by omega)) (by decide) c3
    have r2 := rmk c (a := p.2) (b := (P : Int)) (k := 20) (by omega) (Bi.lt (by omega) (by omega)) (by decide) c3
    have mk := arc_mk c (sz10 (a := p.1) P0 (by omega) (by omega) (by omega)) (sz10 (a := p.2) P0 (by omega) (by omega) (by omega)) (di_nn P0 w0) (di_1 P0 w1) c3
    rw [mom_divInt _ P0, Int.emod_eq_of_lt a0 a1] at mk
    have mk : mkObj c.cArc m3 (F_ArcD_initD c [.loc m3.length, rat c (Rat.divInt p.1 P), rat c (Rat.divInt p.2 P)] (m3 ++ [.ins c.cArc []])) = .ok (ar c P p) m3 := mk
    obtain ⟨Q1, h1⟩ : ∃ q, rat c (Rat.divInt p.1 P) = q := ⟨_, rfl⟩
    obtain ⟨Q2, h2⟩ : ∃ q, rat c (Rat.divInt p.2 P) = q := ⟨_, rfl⟩
    rw [h1] at r1 mk
    rw [h2] at r2 mk
    simp [C_law_3_ap, r1, r2, mk]⟩) (by simp; omega)
  rw [filt_true, List.nil_append] at e5
  -- the sizes
  have chs := choices_ok c (F := tpD) (xs := A) (by omega) (m3 ++ [.lst []])
  have cl : (choices A).length ≤ 512 := by
    have := ch_len A [[]]
    have p9 : 2 ^ A.length ≤ 2 ^ 9 := Nat.pow_le_pow_right (by decide) (by omega)
    unfold choices
    rw [this]; simp; omega
  obtain ⟨y10, e6⟩ := rows_loop c hP hP2 (M := m3) x0 (some (.loc 0)) (some d) (some (.lst (A.map tpD))) none (some (.lst (A.map (ar c P)))) x12 none x14 (choices A) [] (fun sub hs => by
    have sb := (choices_iff A sub).mp hs
    refine ⟨by have := sb.length_le; omega, fun p hp => ?_⟩
    have o := ok p (sb.subset hp)
    have a0 := o.a0
    have a1 := o.a1
    have w0 := o.w0
    have w1 := o.w1
    omega) (by simp; omega) x10
  rw [szF_eq, List.nil_append, show ((choices A).filter (covT P)).map (fun sub => (sub.length : Int)) = sizesC P A from rfl] at e6
  simp only [List.map_nil] at e6
  have szl : (sizesC P A).length ≤ 600 := by
    unfold sizesC
    rw [List.length_map]
    exact Nat.le_trans (List.length_filter_le _ _) (by omega)
  have due := due_ok (P := P) (by omega) (A := A) w1
  have c4 : Cl (m3 ++ [.lst ((sizesC P A).map .int)]) := cl_lst c3 (by
    have : ∀ l : List Int, belows 0 (l.map D.int) = true := fun l => by
      induction l with
      | nil => rfl
      | cons a l ih => simp only [List.map_cons, belows, below, ih, Bool.and_self]
    exact this _)
  have b4 := bag_app b3 [.lst ((sizesC P A).map .int)]
  have P0 : (0 : Int) < P := by omega
  have fw := fun (arcs : D) (h : arcs = .lst (A.map (ar c P)) ∨ arcs = .tup (A.map (ar c P))) => fewest_cover_ok c P0 (by omega) ok (by omega) h c4
  have fw2 := fewest_cover_ok c P0 (by omega) (A := A ++ A) (fun p hp => by rcases List.mem_append.mp hp with h | h <;> exact ok p h) (by simp; omega) (.inl rfl) c4
  have fw3 := fewest_cover_ok c P0 (by omega) (A := A.reverse) (fun p hp => ok p (List.mem_reverse.mp hp)) (by simp; omega) (.inl rfl) c4
  rw [← sz_same P0 (A := A) (B := A ++ A) w1 (fun p hp => by rcases List.mem_append.mp hp with h | h <;> exact w1 p h) (fun x => by simp), List.map_append] at fw2
  rw [← sz_same P0 (A := A) (B := A.reverse) w1 (fun p hp => w1 p (List.mem_reverse.mp hp)) (fun x => by simp), List.map_reverse] at fw3
  have f1 := fw _ (.inl rfl)
  have f2 := fw _ (.inr rfl)
  clear fw
  have ne := ars_eqX c P0 [(.own c.cArc), (.prim "list")] (by simp) (m := m3 ++ [.lst ((sizesC P A).map .int)]) (x := .lst (A.map (ar c P))) (y := .lst (A.map (ar c P))) (ps := A) (qs := A) rfl rfl
  simp only [decide_true, Bool.not_true] at ne
  have gk : ∀ x m, GK_fewest_cover_0_arcs c [x] m = F_fewest_cover c [x] m := fun _ _ => rfl
  have asl : (A.map (ar c P)).length ≤ 7 := by simpa using al
  have gloc : (m3 ++ [Mo.lst ((sizesC P A).map D.int)])[m3.length]? = some (.lst ((sizesC P A).map .int)) := by simp
  have nz := gNe_lnil (m := m3 ++ [.lst ((sizesC P A).map .int)]) (x := .loc m3.length) (ds := (sizesC P A).map .int) (n := 1) (by simp [seqL]) (fun d hd => by obtain ⟨u, _, rfl⟩ := List.mem_map.mp hd; trivial)
  have cgi : ∀ gd : Mu → Prop, gd (m3 ++ [.lst ((sizesC P A).map .int)]) → dCompG gd (dName 13) dYes (dFun gInt (dCons (dVar 13) dNil)) [x0, some (.loc 0), some d, some (.int P), some (.lst (A.map tpD)), none, none, none, some (.lst (A.map (ar c P))), some (.loc m3.length), y10, none, x12, none, x14] ((sizesC P A).map .int) (m3 ++ [.lst ((sizesC P A).map .int)]) [] = .ok ((sizesC P A).map .int) (m3 ++ [.lst ((sizesC P A).map .int)]) := fun gd hg => by
    have q := compG_of (g := dName 13) (c := dYes) (b := dFun gInt (dCons (dVar 13) dNil)) (e := [x0, some (.loc 0), some d, some (.int P), some (.lst (A.map tpD)), none, none, none, some (.lst (A.map (ar c P))), some (.loc m3.length), y10, none, x12, none, x14]) (m := m3 ++ [.lst ((sizesC P A).map .int)]) hg (F := fun i : Int => D.int i) (f := fun i : Int => D.int i) (p := fun _ => true) (sizesC P A) [] (fun i hi => ⟨[x0, some (.loc 0), some d, some (.int P), some (.lst (A.map tpD)), none, none, none, some (.lst (A.map (ar c P))), some (.loc m3.length), y10, none, x12, some (.int i), x14], by simp, by simp, fun _ => by simp⟩) (by simp; omega)
    rw [filt_true, List.nil_append] at q
    exact q
  have gm := fun (h : sizesC P A ≠ []) => gMinL_ints h (m3 ++ [.lst ((sizesC P A).map .int)])
  obtain ⟨U, hU⟩ : ∃ U, cfD (fiI false P A) = U := ⟨_, rfl⟩
  rw [hU] at due f1 f2 fw2 fw3
  have Uk : U = .non ∨ ∃ k : Nat, U = .int k := by rw [← hU]; exact cfD_int _
  have lk3 : ∀ m, F_w_like c 8 [.lst [U, U, U], .lst [U, U, U]] m = .ok (.bl true) m := fun m => like_refl c _ 8 _ (by rcases Uk with rfl | ⟨k, rfl⟩ <;> simp [plainD, hz])
  have lk2 : ∀ m, F_w_like c 8 [.lst [U, U], .lst [U, U]] m = .ok (.bl true) m := fun m => like_refl c _ 8 _ (by rcases Uk with rfl | ⟨k, rfl⟩ <;> simp [plainD, hz])
  have lk3 := lk3 (m3 ++ [.lst ((sizesC P A).map .int)])
  have lk2 := lk2 (m3 ++ [.lst ((sizesC P A).map .int)])
  obtain ⟨Z, hZ⟩ : ∃ Z, sizesC P A = Z := ⟨_, rfl⟩
  simp only [hZ] at *
  obtain ⟨SP, hSP⟩ : ∃ X, A.map tpD = X := ⟨_, rfl⟩
  obtain ⟨AS, hAS⟩ : ∃ X, A.map (ar c P) = X := ⟨_, rfl⟩
  obtain ⟨PS, hPS⟩ : ∃ X, ps.map tpD = X := ⟨_, rfl⟩
  obtain ⟨CH, hCH⟩ : ∃ X, (choices A).map (rowsD tpD) = X := ⟨_, rfl⟩
  obtain ⟨ZD, hZD⟩ : ∃ X, Z.map D.int = X := ⟨_, rfl⟩
  rw [hPS] at e3 e4
  rw [hSP] at e4 e5 chs cgi
  rw [hSP, hAS, hCH] at e6
  rw [hCH] at chs
  rw [hAS] at e5 f1 f2 fw2 fw3 ne asl cgi
  rw [hZD] at e6 f1 f2 fw2 fw3 ne gloc nz cgi gm lk3 lk2 c4 b4
  have n62 : -4611686018427387904 ≤ n := by omega
  have n63 : n < 4611686018427387904 := by omega
  have cat : AS.length + AS.length ≤ 16777216 := by omega
  have al2 : AS.length ≤ 16777216 := by omega
  have zd : (ZD = []) = (Z = []) := by rw [← hZD]; simp
  obtain ⟨M4, hM4⟩ : ∃ M, m3 ++ [Mo.lst ZD] = M := ⟨_, rfl⟩
  rw [hM4] at e6 f1 f2 fw2 fw3 ne gloc nz cgi gm lk3 lk2 c4 b4
  refine ⟨[x0, some (.loc 0), some d, x3, x4, none, none, none, x8, x9, x10, none, x12, none, x14], [x0, some (.loc 0), some d, some (.int P), some (.lst SP), none, none, none, some (.lst AS), some (.loc m3.length), y10, none, some U, none, some (.lst AS)], M4, by simp, ?_, ⟨_, _, _, _, _, _, _, _, rfl⟩, b4, c4⟩
  rw [B_law_2_ap]
  refine (dSeq_nx (e1 := [x0, some (.loc 0), some d, some (.int P), x4, none, none, none, x8, x9, x10, none, x12, none, x14]) (m1 := m1) (by simp [e1, hPn, hz])).trans ?_
  refine (dSeq_nx (e1 := [x0, some (.loc 0), some d, some (.int P), some (.lst PS), none, none, none, x8, x9, x10, none, x12, none, x14]) (m1 := m3) (by simp [e2, n62, n63, wipeE, e3])).trans ?_
  refine (dSeq_nx (e1 := [x0, some (.loc 0), some d, some (.int P), some (.lst SP), none, none, none, x8, x9, x10, none, x12, none, x14]) (m1 := m3) (by simp [wipeE, e4])).trans ?_
  refine (dSeq_nx (e1 := [x0, some (.loc 0), some d, some (.int P), some (.lst SP), none, none, none, some (.lst AS), x9, x10, none, x12, none, x14]) (m1 := m3) (by simp [wipeE, e5])).trans ?_
  refine (dSeq_nx (e1 := [x0, some (.loc 0), some d, some (.int P), some (.lst SP), none, none, none, some (.lst AS), some (.loc m3.length), x10, none, x12, none, x14]) (m1 := m3 ++ [.lst []]) (by simp)).trans ?_
  refine (dSeq_nx (e1 := [x0, some (.loc 0), some d, some (.int P), some (.lst SP), none, none, none, some (.lst AS), some (.loc m3.length), y10, none, x12, none, x14]) (m1 := M4) (by simp [chs, e6])).trans ?_
  refine (dSeq_nx (e1 := [x0, some (.loc 0), some d, some (.int P), some (.lst SP), none, none, none, some (.lst AS), some (.loc m3.length), y10, none, some U, none, x14]) (m1 := M4) ?_).trans ?_
  · by_cases z : Z = []
    · have nz' : gNe (.loc m3.length) (.lst []) M4 = .ok (.bl false) M4 := by rw [nz]; simp [zd, z]
      have dz : U = .non := by rw [← due, if_pos z]
      simp [nz', dz]
    · have nz' : gNe (.loc m3.length) (.lst []) M4 = .ok (.bl true) M4 := by rw [nz]; simp [zd, z]
      have dz : U = .int (minI Z) := by rw [← due, if_neg z]
      have gm := gm z
      simp [nz', dz, comp1, gloc, wipeE, cgi, gm]
  refine (dSeq_nx (e1 := [x0, some (.loc 0), some d, some (.int P), some (.lst SP), none, none, none, some (.lst AS), some (.loc m3.length), y10, none, some U, none, some (.lst AS)]) (m1 := M4) (by simp [gList, seqA, hz])).trans ?_
  refine (dSeq_nx (e1 := [x0, some (.loc 0), some d, some (.int P), some (.lst SP), none, none, none, some (.lst AS), some (.loc m3.length), y10, none, some U, none, some (.lst AS)]) (m1 := M4) (by simp [f1, gk, f2, gTuple, gCat, seqL, cat, fw2, lk3, hz])).trans ?_
  simp [-orD_ap, ne, f1, seqL, al2, fw3, lk2, hz]
theorem law_true (c : Cs) (hc : c.Ok) (ns : List Int) (hl : ns.length ≤ 63) : ∃ m, F_law c [.lst (ns.map .int)] [] = .ok (.bl true) m := by
  obtain ⟨m0, e0, b0, c0⟩ := begin_ok c ns hl
  obtain ⟨e2, m2, h, ⟨_, _, _, _, _, _, _, _, rfl⟩, b2, c2⟩ := dLoop_inv (g := dName 2) (b := B_law_2 c) (I12 (some (.lst (ns.map .int)))) (rngD 0 4) [some (.lst (ns.map .int)), some (.loc 0), none, none, none, none, none, none, none, none, none, none, none, none, none] m0 (fun d _ e m hi => body_ok c _ d e m hi) ⟨⟨_, _, _, _, _, _, _, _, rfl⟩, b0, c0⟩
  have f0 := fewest_cover_ok c (P := 2) (by decide) (by decide) (A := []) (fun p hp => nomatch hp) (by simp) (.inl rfl) c2
  have fn : cfD (fiI false 2 []) = .non := rfl
  rw [fn] at f0
  simp only [List.map_nil] at f0
  exact ⟨m2, by simp [F_law, env0, e0, h, f0]⟩
end W

set_option maxHeartbeats 0
namespace W
open PySem PySem.Spec L2 DL
theorem facts {P : Program} {w : World} {K : PySem.W.Frag} {h : Heap} {mg : Str → Option Value} {fa : Addr} (X : K.In h) (G : h.Ns mainGlobals mg) (hfa : mg ("law" : Str) = some (.ref fa)) (c : SaysK fs ds K) :
    ∃ (fd : FuncData) (cc : Cs), cc.Ok ∧ (∀ (s : Shared) (v : Value), BindsTo s fd ⟨[v], []⟩ [("_law_script", v)]) ∧ ∀ base : Heap, K.In base → base.Ns mainGlobals mg → FnD P w K mg base 11 fa fd ["_law_script"] (F_law cc) := by
  obtain ⟨fd0, F0⟩ := c.df 0 (d := dk0) rfl
  obtain ⟨fd1, F1⟩ := c.df 1 (d := dk1) rfl
  obtain ⟨fd2, F2⟩ := c.df 2 (d := dk2) rfl
  obtain ⟨fd3, F3⟩ := c.df 3 (d := dk3) rfl
  obtain ⟨fd4, F4⟩ := c.df 4 (d := dk4) rfl
  obtain ⟨fd5, F5⟩ := c.df 5 (d := dk5) rfl
  obtain ⟨fd6, F6⟩ := c.df 6 (d := dk6) rfl
  obtain ⟨fd7, F7⟩ := c.df 7 (d := dk7) rfl
  obtain ⟨fd8, F8⟩ := c.df 8 (d := dk8) rfl
  obtain ⟨fd9, F9⟩ := c.df 9 (d := dk9) rfl
  obtain ⟨fd10, F10⟩ := c.df 10 (d := dk10) rfl
  obtain ⟨fd11, F11⟩ := c.df 11 (d := dk11) rfl
  obtain ⟨fd12, F12⟩ := c.df 12 (d := dk12) rfl
  obtain ⟨fd13, F13⟩ := c.df 13 (d := dk13) rfl
  obtain ⟨fd14, F14⟩ := c.df 14 (d := dk14) rfl
  obtain ⟨fd15, F15⟩ := c.df 15 (d := dk15) rfl
  obtain ⟨fd16, F16⟩ := c.df 16 (d := dk16) rfl
  obtain ⟨fd17, F17⟩ := c.df 17 (d := dk17) rfl
  obtain ⟨fd18, F18⟩ := c.df 18 (d := dk18) rfl
  obtain ⟨fd19, F19⟩ := c.df 19 (d := dk19) rfl
  obtain ⟨fd20, F20⟩ := c.df 20 (d := dk20) rfl
  obtain ⟨fd21, F21⟩ := c.df 21 (d := dk21) rfl
  obtain ⟨fd22, F22⟩ := c.df 22 (d := dk22) rfl
  obtain ⟨fd23, F23⟩ := c.df 23 (d := dk23) rfl
  obtain ⟨fd24, F24⟩ := c.df 24 (d := dk24) rfl
  obtain ⟨fd25, F25⟩ := c.df 25 (d := dk25) rfl
  have T : Txt K mg ⟨(He.ga K "Arc"), (He.ga K "Ratio")⟩ := {
    fn_w_begin := ⟨_, _, He.glo_ok X G (c.fact 0 (f := q0) rfl), F0⟩
    fn_w_take := ⟨_, _, He.glo_ok X G (c.fact 1 (f := q1) rfl), F1⟩
    fn_is_ratio := ⟨_, _, He.glo_ok X G (c.fact 2 (f := q2) rfl), F2⟩
    fn_is_whole := ⟨_, _, He.glo_ok X G (c.fact 3 (f := q3) rfl), F3⟩
    fn_common_divisor := ⟨_, _, He.glo_ok X G (c.fact 4 (f := q4) rfl), F4⟩
    me_RatioD_initD := ⟨_, _, (show PySem.W.findIn K (.ref (He.ga K "Ratio")) "__init__" = some (some (.ref (He.ma K (He.ga K "Ratio") "__init__"))) from He.eqO_ok (c.fact 5 (f := q5) rfl)), (show PySem.W.isFn K (.ref (He.ma K (He.ga K "Ratio") "__init__")) = true from (c.fact 6 (f := q6) rfl)), F5⟩
    pr_Ratio_bottom := ⟨_, _, _, ⟨(show PySem.W.findIn K (.ref (He.ga K "Ratio")) "bottom" = some (some (.ref (He.ma K (He.ga K "Ratio") "bottom"))) from He.eqO_ok (c.fact 10 (f := q10) rfl)), (show PySem.W.specialIn K (.ref (He.ma K (He.ga K "Ratio") "bottom")) "__get__" = some (some (.builtin "property.__get__")) from He.eqO_ok (c.fact 7 (f := q7) rfl)), (of_decide_eq_true (show decide (PySem.W.takesIn K (.ref (He.ma K (He.ga K "Ratio") "bottom")) = some true) = true from (c.fact 8 (f := q8) rfl))), (recB_ok (c.fact 9 (f := q9) rfl))⟩, F6⟩
    pr_Ratio_top := ⟨_, _, _, ⟨(show PySem.W.findIn K (.ref (He.ga K "Ratio")) "top" = some (some (.ref (He.ma K (He.ga K "Ratio") "top"))) from He.eqO_ok (c.fact 14 (f := q14) rfl)), (show PySem.W.specialIn K (.ref (He.ma K (He.ga K "Ratio") "top")) "__get__" = some (some (.builtin "property.__get__")) from He.eqO_ok (c.fact 11 (f := q11) rfl)), (of_decide_eq_true (show decide (PySem.W.takesIn K (.ref (He.ma K (He.ga K "Ratio") "top")) = some true) = true from (c.fact 12 (f := q12) rfl))), (recB_ok (c.fact 13 (f := q13) rfl))⟩, F7⟩
    me_Ratio_is_below := ⟨_, _, (show PySem.W.findIn K (.ref (He.ga K "Ratio")) "is_below" = some (some (.ref (He.ma K (He.ga K "Ratio") "is_below"))) from He.eqO_ok (c.fact 15 (f := q15) rfl)), (show PySem.W.isFn K (.ref (He.ma K (He.ga K "Ratio") "is_below")) = true from (c.fact 16 (f := q16) rfl)), F8⟩
    fn_is_between := ⟨_, _, He.glo_ok X G (c.fact 17 (f := q17) rfl), F9⟩
    me_Ratio_moment := ⟨_, _, (show PySem.W.findIn K (.ref (He.ga K "Ratio")) "moment" = some (some (.ref (He.ma K (He.ga K "Ratio") "moment"))) from He.eqO_ok (c.fact 18 (f := q18) rfl)), (show PySem.W.isFn K (.ref (He.ma K (He.ga K "Ratio") "moment")) = true from (c.fact 19 (f := q19) rfl)), F10⟩
    me_ArcD_initD := ⟨_, _, (show PySem.W.findIn K (.ref (He.ga K "Arc")) "__init__" = some (some (.ref (He.ma K (He.ga K "Arc") "__init__"))) from He.eqO_ok (c.fact 20 (f := q20) rfl)), (show PySem.W.isFn K (.ref (He.ma K (He.ga K "Arc") "__init__")) = true from (c.fact 21 (f := q21) rfl)), F11⟩
    fn_w_choices := ⟨_, _, He.glo_ok X G (c.fact 22 (f := q22) rfl), F12⟩
    fn_w_is_in := ⟨_, _, He.glo_ok X G (c.fact 23 (f := q23) rfl), F13⟩
    pr_Arc_width := ⟨_, _, _, ⟨(show PySem.W.findIn K (.ref (He.ga K "Arc")) "width" = some (some (.ref (He.ma K (He.ga K "Arc") "width"))) from He.eqO_ok (c.fact 27 (f := q27) rfl)), (show PySem.W.specialIn K (.ref (He.ma K (He.ga K "Arc") "width")) "__get__" = some (some (.builtin "property.__get__")) from He.eqO_ok (c.fact 24 (f := q24) rfl)), (of_decide_eq_true (show decide (PySem.W.takesIn K (.ref (He.ma K (He.ga K "Arc") "width")) = some true) = true from (c.fact 25 (f := q25) rfl))), (recB_ok (c.fact 26 (f := q26) rfl))⟩, F14⟩
    pr_Arc_start := ⟨_, _, _, ⟨(show PySem.W.findIn K (.ref (He.ga K "Arc")) "start" = some (some (.ref (He.ma K (He.ga K "Arc") "start"))) from He.eqO_ok (c.fact 31 (f := q31) rfl)), (show PySem.W.specialIn K (.ref (He.ma K (He.ga K "Arc") "start")) "__get__" = some (some (.builtin "property.__get__")) from He.eqO_ok (c.fact 28 (f := q28) rfl)), (of_decide_eq_true (show decide (PySem.W.takesIn K (.ref (He.ma K (He.ga K "Arc") "start")) = some true) = true from (c.fact 29 (f := q29) rfl))), (recB_ok (c.fact 30 (f := q30) rfl))⟩, F15⟩
    me_RatioD_addD := ⟨_, _, (show PySem.W.findIn K (.ref (He.ga K "Ratio")) "__add__" = some (some (.ref (He.ma K (He.ga K "Ratio") "__add__"))) from He.eqO_ok (c.fact 32 (f := q32) rfl)), (show PySem.W.isFn K (.ref (He.ma K (He.ga K "Ratio") "__add__")) = true from (c.fact 33 (f := q33) rfl)), F16⟩
    me_RatioD_subD := ⟨_, _, (show PySem.W.findIn K (.ref (He.ga K "Ratio")) "__sub__" = some (some (.ref (He.ma K (He.ga K "Ratio") "__sub__"))) from He.eqO_ok (c.fact 34 (f := q34) rfl)), (show PySem.W.isFn K (.ref (He.ma K (He.ga K "Ratio") "__sub__")) = true from (c.fact 35 (f := q35) rfl)), F17⟩
    me_Arc_offset := ⟨_, _, (show PySem.W.findIn K (.ref (He.ga K "Arc")) "offset" = some (some (.ref (He.ma K (He.ga K "Arc") "offset"))) from He.eqO_ok (c.fact 36 (f := q36) rfl)), (show PySem.W.isFn K (.ref (He.ma K (He.ga K "Arc") "offset")) = true from (c.fact 37 (f := q37) rfl)), F18⟩
    me_RatioD_boolD := ⟨_, _, (show PySem.W.findIn K (.ref (He.ga K "Ratio")) "__bool__" = some (some (.ref (He.ma K (He.ga K "Ratio") "__bool__"))) from He.eqO_ok (c.fact 38 (f := q38) rfl)), (show PySem.W.isFn K (.ref (He.ma K (He.ga K "Ratio") "__bool__")) = true from (c.fact 39 (f := q39) rfl)), F19⟩
    fn_cover_from := ⟨_, _, He.glo_ok X G (c.fact 40 (f := q40) rfl), F20⟩
    fn_fewest_cover := ⟨_, _, He.glo_ok X G (c.fact 41 (f := q41) rfl), F21⟩
    fn_w_like := ⟨_, _, He.glo_ok X G (c.fact 42 (f := q42) rfl), F22⟩
    me_RatioD_eqD := ⟨_, _, (show PySem.W.findIn K (.ref (He.ga K "Ratio")) "__eq__" = some (some (.ref (He.ma K (He.ga K "Ratio") "__eq__"))) from He.eqO_ok (c.fact 43 (f := q43) rfl)), (show PySem.W.isFn K (.ref (He.ma K (He.ga K "Ratio") "__eq__")) = true from (c.fact 44 (f := q44) rfl)), F23⟩
    me_ArcD_eqD := ⟨_, _, (show PySem.W.findIn K (.ref (He.ga K "Arc")) "__eq__" = some (some (.ref (He.ma K (He.ga K "Arc") "__eq__"))) from He.eqO_ok (c.fact 45 (f := q45) rfl)), (show PySem.W.isFn K (.ref (He.ma K (He.ga K "Arc") "__eq__")) = true from (c.fact 46 (f := q46) rfl)), F24⟩
    fn_law := ⟨_, _, He.glo_ok X G (c.fact 47 (f := q47) rfl), F25⟩
    b_abs := He.free_ok X G (c.fact 48 (f := q48) rfl)
    b_all := He.free_ok X G (c.fact 49 (f := q49) rfl)
    b_any := He.free_ok X G (c.fact 50 (f := q50) rfl)
    b_bool := He.free_ok X G (c.fact 51 (f := q51) rfl)
    b_int := He.free_ok X G (c.fact 52 (f := q52) rfl)
    b_isinstance := He.free_ok X G (c.fact 53 (f := q53) rfl)
    b_len := He.free_ok X G (c.fact 54 (f := q54) rfl)
    b_list := He.free_ok X G (c.fact 55 (f := q55) rfl)
    b_min := He.free_ok X G (c.fact 56 (f := q56) rfl)
    b_range := He.free_ok X G (c.fact 57 (f := q57) rfl)
    b_str := He.free_ok X G (c.fact 58 (f := q58) rfl)
    b_tuple := He.free_ok X G (c.fact 59 (f := q59) rfl)
    b_zip := He.free_ok X G (c.fact 60 (f := q60) rfl)
    cl_Arc := (He.cls_ok (c.fact 61 (f := q61) rfl))
    gc_Arc := He.glo_ok X G (c.fact 62 (f := q62) rfl)
    cl_Ratio := (He.cls_ok (c.fact 63 (f := q63) rfl))
    gc_Ratio := He.glo_ok X G (c.fact 64 (f := q64) rfl)
    mk_Arc := ⟨(show PySem.W.makesIn K (He.ga K "Arc") = true from (c.fact 65 (f := q65) rfl)), (show PySem.W.keepIn K (.ref (He.ga K "Arc")) = true from (c.fact 66 (f := q66) rfl))⟩
    mk_Ratio := ⟨(show PySem.W.makesIn K (He.ga K "Ratio") = true from (c.fact 67 (f := q67) rfl)), (show PySem.W.keepIn K (.ref (He.ga K "Ratio")) = true from (c.fact 68 (f := q68) rfl))⟩
    sf_Ratio := (show PySem.W.selfFirst K (He.ga K "Ratio") = true from (c.fact 69 (f := q69) rfl))
    fl_Arc_own_start := ⟨(He.cls_ok (c.fact 61 (f := q61) rfl)), He.noat_ok (c.fact 70 (f := q70) rfl), (show nsArc[0]? = some ("own_start" : Str) from by decide +kernel), (show ("own_start" : Str) ∉ nsArc.take 0 from by decide +kernel)⟩
    fl_Arc_own_width := ⟨(He.cls_ok (c.fact 61 (f := q61) rfl)), He.noat_ok (c.fact 71 (f := q71) rfl), (show nsArc[1]? = some ("own_width" : Str) from by decide +kernel), (show ("own_width" : Str) ∉ nsArc.take 1 from by decide +kernel)⟩
    fl_Ratio_own_bottom := ⟨(He.cls_ok (c.fact 63 (f := q63) rfl)), He.noat_ok (c.fact 72 (f := q72) rfl), (show nsRatio[1]? = some ("own_bottom" : Str) from by decide +kernel), (show ("own_bottom" : Str) ∉ nsRatio.take 1 from by decide +kernel)⟩
    fl_Ratio_own_top := ⟨(He.cls_ok (c.fact 63 (f := q63) rfl)), He.noat_ok (c.fact 73 (f := q73) rfl), (show nsRatio[0]? = some ("own_top" : Str) from by decide +kernel), (show ("own_top" : Str) ∉ nsRatio.take 0 from by decide +kernel)⟩
    in_Arc := ⟨(He.cls_ok (c.fact 61 (f := q61) rfl)), (show PySem.W.findIn K (.ref (He.ga K "Arc")) "__class__" = some (some (.builtin "object.__class__")) from He.eqO_ok (c.fact 76 (f := q76) rfl)), (show PySem.W.specialIn K (.builtin "object.__class__") "__get__" = some (some (.builtin "getset_descriptor.__get__")) from He.eqO_ok (c.fact 74 (f := q74) rfl)), (of_decide_eq_true (show decide (PySem.W.takesIn K (.builtin "object.__class__") = some true) = true from (c.fact 75 (f := q75) rfl))), (of_decide_eq_true (show decide (PySem.W.mroIn K (He.ga K "Arc") (.type "object") = some true) = true from (c.fact 77 (f := q77) rfl)))⟩
    in_Ratio := ⟨(He.cls_ok (c.fact 63 (f := q63) rfl)), (show PySem.W.findIn K (.ref (He.ga K "Ratio")) "__class__" = some (some (.builtin "object.__class__")) from He.eqO_ok (c.fact 78 (f := q78) rfl)), (show PySem.W.specialIn K (.builtin "object.__class__") "__get__" = some (some (.builtin "getset_descriptor.__get__")) from He.eqO_ok (c.fact 74 (f := q74) rfl)), (of_decide_eq_true (show decide (PySem.W.takesIn K (.builtin "object.__class__") = some true) = true from (c.fact 75 (f := q75) rfl))), (of_decide_eq_true (show decide (PySem.W.mroIn K (He.ga K "Ratio") (.type "object") = some true) = true from (c.fact 79 (f := q79) rfl)))⟩
    nf_Arc_ownccArc := (show PySem.W.notFirst K (He.ga K "Arc") (.ref (He.ga K "Arc")) = true from (c.fact 80 (f := q80) rfl))
    nf_Arc_primlist := (show PySem.W.notFirst K (He.ga K "Arc") (.type "list") = true from (c.fact 81 (f := q81) rfl))
    nf_Ratio_ownccRatio := (show PySem.W.notFirst K (He.ga K "Ratio") (.ref (He.ga K "Ratio")) = true from (c.fact 82 (f := q82) rfl))
    ans_Arc__Arc := by
      refine ⟨fun n hn => ?_, fun p hp => ?_⟩
      · simp only [primNames, List.mem_cons, List.not_mem_nil, or_false] at hn
        rcases hn with rfl | rfl | rfl | rfl | rfl | rfl
        · exact (of_decide_eq_true (show decide (PySem.W.kitAny K (.type "NoneType") [.ref (He.ga K "Arc")] = some false) = true from (c.fact 83 (f := q83) rfl)))
        · exact (of_decide_eq_true (show decide (PySem.W.kitAny K (.type "bool") [.ref (He.ga K "Arc")] = some false) = true from (c.fact 84 (f := q84) rfl)))
        · exact (of_decide_eq_true (show decide (PySem.W.kitAny K (.type "int") [.ref (He.ga K "Arc")] = some false) = true from (c.fact 85 (f := q85) rfl)))
        · exact (of_decide_eq_true (show decide (PySem.W.kitAny K (.type "str") [.ref (He.ga K "Arc")] = some false) = true from (c.fact 86 (f := q86) rfl)))
        · exact (of_decide_eq_true (show decide (PySem.W.kitAny K (.type "tuple") [.ref (He.ga K "Arc")] = some false) = true from (c.fact 87 (f := q87) rfl)))
        · exact (of_decide_eq_true (show decide (PySem.W.kitAny K (.type "list") [.ref (He.ga K "Arc")] = some false) = true from (c.fact 88 (f := q88) rfl)))
      · simp only [ans_Arc__Arc, List.mem_cons, List.not_mem_nil, or_false] at hp
        subst hp
        · exact ⟨(of_decide_eq_true (show decide (PySem.W.kitAny K (.ref (He.ga K "Arc")) [.ref (He.ga K "Arc")] = some true) = true from (c.fact 89 (f := q89) rfl))), ⟨(He.cls_ok (c.fact 61 (f := q61) rfl)), (show PySem.W.findIn K (.ref (He.ga K "Arc")) "__class__" = some (some (.builtin "object.__class__")) from He.eqO_ok (c.fact 76 (f := q76) rfl)), (show PySem.W.specialIn K (.builtin "object.__class__") "__get__" = some (some (.builtin "getset_descriptor.__get__")) from He.eqO_ok (c.fact 74 (f := q74) rfl)), (of_decide_eq_true (show decide (PySem.W.takesIn K (.builtin "object.__class__") = some true) = true from (c.fact 75 (f := q75) rfl))), (of_decide_eq_true (show decide (PySem.W.mroIn K (He.ga K "Arc") (.type "object") = some true) = true from (c.fact 77 (f := q77) rfl)))⟩⟩

    ans_Ratio__Ratio := by
      refine ⟨fun n hn => ?_, fun p hp => ?_⟩
      · simp only [primNames, List.mem_cons, List.not_mem_nil, or_false] at hn
        rcases hn with rfl | rfl | rfl | rfl | rfl | rfl
        · exact (of_decide_eq_true (show decide (PySem.W.kitAny K (.type "NoneType") [.ref (He.ga K "Ratio")] = some false) = true from (c.fact 90 (f := q90) rfl)))
        · exact (of_decide_eq_true (show decide (PySem.W.kitAny K (.type "bool") [.ref (He.ga K "Ratio")] = some false) = true from (c.fact 91 (f := q91) rfl)))
        · exact (of_decide_eq_true (show decide (PySem.W.kitAny K (.type "int") [.ref (He.ga K "Ratio")] = some false) = true from (c.fact 92 (f := q92) rfl)))
        · exact (of_decide_eq_true (show decide (PySem.W.kitAny K (.type "str") [.ref (He.ga K "Ratio")] = some false) = true from (c.fact 93 (f := q93) rfl)))
        · exact (of_decide_eq_true (show decide (PySem.W.kitAny K (.type "tuple") [.ref (He.ga K "Ratio")] = some false) = true from (c.fact 94 (f := q94) rfl)))
        · exact (of_decide_eq_true (show decide (PySem.W.kitAny K (.type "list") [.ref (He.ga K "Ratio")] = some false) = true from (c.fact 95 (f := q95) rfl)))
      · simp only [ans_Ratio__Ratio, List.mem_cons, List.not_mem_nil, or_false] at hp
        subst hp
        · exact ⟨(of_decide_eq_true (show decide (PySem.W.kitAny K (.ref (He.ga K "Ratio")) [.ref (He.ga K "Ratio")] = some true) = true from (c.fact 96 (f := q96) rfl))), ⟨(He.cls_ok (c.fact 63 (f := q63) rfl)), (show PySem.W.findIn K (.ref (He.ga K "Ratio")) "__class__" = some (some (.builtin "object.__class__")) from He.eqO_ok (c.fact 78 (f := q78) rfl)), (show PySem.W.specialIn K (.builtin "object.__class__") "__get__" = some (some (.builtin "getset_descriptor.__get__")) from He.eqO_ok (c.fact 74 (f := q74) rfl)), (of_decide_eq_true (show decide (PySem.W.takesIn K (.builtin "object.__class__") = some true) = true from (c.fact 75 (f := q75) rfl))), (of_decide_eq_true (show decide (PySem.W.mroIn K (He.ga K "Ratio") (.type "object") = some true) = true from (c.fact 79 (f := q79) rfl)))⟩⟩

    ans_bool := by
      refine ⟨fun n hn => ?_, fun p hp => ?_⟩
      · simp only [primNames, List.mem_cons, List.not_mem_nil, or_false] at hn
        rcases hn with rfl | rfl | rfl | rfl | rfl | rfl
        · exact (of_decide_eq_true (show decide (PySem.W.kitAny K (.type "NoneType") [.type "bool"] = some false) = true from (c.fact 97 (f := q97) rfl)))
        · exact (of_decide_eq_true (show decide (PySem.W.kitAny K (.type "bool") [.type "bool"] = some true) = true from (c.fact 98 (f := q98) rfl)))
        · exact (of_decide_eq_true (show decide (PySem.W.kitAny K (.type "int") [.type "bool"] = some false) = true from (c.fact 99 (f := q99) rfl)))
        · exact (of_decide_eq_true (show decide (PySem.W.kitAny K (.type "str") [.type "bool"] = some false) = true from (c.fact 100 (f := q100) rfl)))
        · exact (of_decide_eq_true (show decide (PySem.W.kitAny K (.type "tuple") [.type "bool"] = some false) = true from (c.fact 101 (f := q101) rfl)))
        · exact (of_decide_eq_true (show decide (PySem.W.kitAny K (.type "list") [.type "bool"] = some false) = true from (c.fact 102 (f := q102) rfl)))
      · simp only [ans_bool, List.mem_cons, List.not_mem_nil, or_false] at hp

    ans_int := by
      refine ⟨fun n hn => ?_, fun p hp => ?_⟩
      · simp only [primNames, List.mem_cons, List.not_mem_nil, or_false] at hn
        rcases hn with rfl | rfl | rfl | rfl | rfl | rfl
        · exact (of_decide_eq_true (show decide (PySem.W.kitAny K (.type "NoneType") [.type "int"] = some false) = true from (c.fact 103 (f := q103) rfl)))
        · exact (of_decide_eq_true (show decide (PySem.W.kitAny K (.type "bool") [.type "int"] = some true) = true from (c.fact 104 (f := q104) rfl)))
        · exact (of_decide_eq_true (show decide (PySem.W.kitAny K (.type "int") [.type "int"] = some true) = true from (c.fact 105 (f := q105) rfl)))
        · exact (of_decide_eq_true (show decide (PySem.W.kitAny K (.type "str") [.type "int"] = some false) = true from (c.fact 106 (f := q106) rfl)))
        · exact (of_decide_eq_true (show decide (PySem.W.kitAny K (.type "tuple") [.type "int"] = some false) = true from (c.fact 107 (f := q107) rfl)))
        · exact (of_decide_eq_true (show decide (PySem.W.kitAny K (.type "list") [.type "int"] = some false) = true from (c.fact 108 (f := q108) rfl)))
      · simp only [ans_int, List.mem_cons, List.not_mem_nil, or_false] at hp

    ans_list := by
      refine ⟨fun n hn => ?_, fun p hp => ?_⟩
      · simp only [primNames, List.mem_cons, List.not_mem_nil, or_false] at hn
        rcases hn with rfl | rfl | rfl | rfl | rfl | rfl
        · exact (of_decide_eq_true (show decide (PySem.W.kitAny K (.type "NoneType") [.type "list"] = some false) = true from (c.fact 109 (f := q109) rfl)))
        · exact (of_decide_eq_true (show decide (PySem.W.kitAny K (.type "bool") [.type "list"] = some false) = true from (c.fact 110 (f := q110) rfl)))
        · exact (of_decide_eq_true (show decide (PySem.W.kitAny K (.type "int") [.type "list"] = some false) = true from (c.fact 111 (f := q111) rfl)))
        · exact (of_decide_eq_true (show decide (PySem.W.kitAny K (.type "str") [.type "list"] = some false) = true from (c.fact 112 (f := q112) rfl)))
        · exact (of_decide_eq_true (show decide (PySem.W.kitAny K (.type "tuple") [.type "list"] = some false) = true from (c.fact 113 (f := q113) rfl)))
        · exact (of_decide_eq_true (show decide (PySem.W.kitAny K (.type "list") [.type "list"] = some true) = true from (c.fact 114 (f := q114) rfl)))
      · simp only [ans_list, List.mem_cons, List.not_mem_nil, or_false] at hp

    ans_list_tuple := by
      refine ⟨fun n hn => ?_, fun p hp => ?_⟩
      · simp only [primNames, List.mem_cons, List.not_mem_nil, or_false] at hn
        rcases hn with rfl | rfl | rfl | rfl | rfl | rfl
        · exact (of_decide_eq_true (show decide (PySem.W.kitAny K (.type "NoneType") [.type "list", .type "tuple"] = some false) = true from (c.fact 115 (f := q115) rfl)))
        · exact (of_decide_eq_true (show decide (PySem.W.kitAny K (.type "bool") [.type "list", .type "tuple"] = some false) = true from (c.fact 116 (f := q116) rfl)))
        · exact (of_decide_eq_true (show decide (PySem.W.kitAny K (.type "int") [.type "list", .type "tuple"] = some false) = true from (c.fact 117 (f := q117) rfl)))
        · exact (of_decide_eq_true (show decide (PySem.W.kitAny K (.type "str") [.type "list", .type "tuple"] = some false) = true from (c.fact 118 (f := q118) rfl)))
        · exact (of_decide_eq_true (show decide (PySem.W.kitAny K (.type "tuple") [.type "list", .type "tuple"] = some true) = true from (c.fact 119 (f := q119) rfl)))
        · exact (of_decide_eq_true (show decide (PySem.W.kitAny K (.type "list") [.type "list", .type "tuple"] = some true) = true from (c.fact 120 (f := q120) rfl)))
      · simp only [ans_list_tuple, List.mem_cons, List.not_mem_nil, or_false] at hp

    ans_str := by
      refine ⟨fun n hn => ?_, fun p hp => ?_⟩
      · simp only [primNames, List.mem_cons, List.not_mem_nil, or_false] at hn
        rcases hn with rfl | rfl | rfl | rfl | rfl | rfl
        · exact (of_decide_eq_true (show decide (PySem.W.kitAny K (.type "NoneType") [.type "str"] = some false) = true from (c.fact 121 (f := q121) rfl)))
        · exact (of_decide_eq_true (show decide (PySem.W.kitAny K (.type "bool") [.type "str"] = some false) = true from (c.fact 122 (f := q122) rfl)))
        · exact (of_decide_eq_true (show decide (PySem.W.kitAny K (.type "int") [.type "str"] = some false) = true from (c.fact 123 (f := q123) rfl)))
        · exact (of_decide_eq_true (show decide (PySem.W.kitAny K (.type "str") [.type "str"] = some true) = true from (c.fact 124 (f := q124) rfl)))
        · exact (of_decide_eq_true (show decide (PySem.W.kitAny K (.type "tuple") [.type "str"] = some false) = true from (c.fact 125 (f := q125) rfl)))
        · exact (of_decide_eq_true (show decide (PySem.W.kitAny K (.type "list") [.type "str"] = some false) = true from (c.fact 126 (f := q126) rfl)))
      · simp only [ans_str, List.mem_cons, List.not_mem_nil, or_false] at hp

    ans_tuple := by
      refine ⟨fun n hn => ?_, fun p hp => ?_⟩
      · simp only [primNames, List.mem_cons, List.not_mem_nil, or_false] at hn
        rcases hn with rfl | rfl | rfl | rfl | rfl | rfl
        · exact (of_decide_eq_true (show decide (PySem.W.kitAny K (.type "NoneType") [.type "tuple"] = some false) = true from (c.fact 127 (f := q127) rfl)))
        · exact (of_decide_eq_true (show decide (PySem.W.kitAny K (.type "bool") [.type "tuple"] = some false) = true from (c.fact 128 (f := q128) rfl)))
        · exact (of_decide_eq_true (show decide (PySem.W.kitAny K (.type "int") [.type "tuple"] = some false) = true from (c.fact 129 (f := q129) rfl)))
        · exact (of_decide_eq_true (show decide (PySem.W.kitAny K (.type "str") [.type "tuple"] = some false) = true from (c.fact 130 (f := q130) rfl)))
        · exact (of_decide_eq_true (show decide (PySem.W.kitAny K (.type "tuple") [.type "tuple"] = some true) = true from (c.fact 131 (f := q131) rfl)))
        · exact (of_decide_eq_true (show decide (PySem.W.kitAny K (.type "list") [.type "tuple"] = some false) = true from (c.fact 132 (f := q132) rfl)))
      · simp only [ans_tuple, List.mem_cons, List.not_mem_nil, or_false] at hp

  }
  have e := hfa.symm.trans (He.glo_ok X G (c.fact 47 (f := q47) rfl))
  cases e
  have b := FunD.bindsA (ps := ["_law_script"]) F25 fun _ _ _ _ _ _ us hl => match us, hl with | [_], _ => rfl
  exact ⟨fd25, _, ⟨(of_decide_eq_true (show decide ((He.ga K "Arc") ≠ (He.ga K "Ratio")) = true from (c.fact 133 (f := q133) rfl))), trivial⟩, fun s v => b s [v] rfl, fun base _ _ => ok_law T F25⟩
theorem law_end {l : PySem.W.OpenLaw} {n : Nat} {q : Program} {loose : List Str} {XP : (Str → Option Value) → Heap → Prop} {d : DefRec} (hn : l.most = some 63) (hdf : d.params.defaults = []) (hnm : d.name = ("law" : Str)) :
    PySem.W.WalkO q loose XP (hookK n fs ds).says l.row.toRowW d [] (fun f vs => PySem.call f vs) := by
  refine walk_ofK (n := 63) (k := 11) (x := "_law_script") hn (by decide) hdf ⟨rfl, by decide, by decide⟩ fun w mg fa h Y G hmg => ?_
  obtain ⟨K, KX, c⟩ := Y
  rw [hnm] at hmg
  obtain ⟨fd, cc, hc, hb, hF⟩ := facts (P := l.prog) (w := w) KX G hmg c
  exact ⟨K, fd, spLaw K, KX, hb, fun H a ns hl hS => ⟨a, ns, rfl, hS, hl, (fun _ h => nomatch h), fun _ => rfl⟩, fun base b1 b2 => law_sp (hF base b1 b2) (law_true cc hc)⟩
end W
open PySem PySem.W PyProof.Rows
set_option maxRecDepth 100000 in
set_option maxHeartbeats 0 in
theorem PySem.Challenge.cw_bothgreen_k12_whole_fewest_covers_holds : PySem.Challenge.rw_bothgreen_k12_whole_fewest_covers.Holds := by
  w_on; o_law
  refine HandSHeadRun.head_any (r := W.R0) (q := W.qv) (H := DL.hookK 5 W.fs W.ds) (ob := W.ob) (M := 40000) (loose := W.loose) (d := HandSHeadRun.topDef W.R0.prog 27) (kwd := []) W.ob_eq (by kernel_rfl) (fun s => by kernel_rfl) W.run (by kernel_rfl) (by kernel_rfl) (by kernel_rfl) (by rfl) (by first | assumption | decide +kernel) (by decide +kernel) ⟨rfl, rfl, rfl, rfl, rfl, by decide +kernel⟩ ?hw ?hc
  case hw => w_witness2
  case hc => exact W.law_end (l := PySem.Challenge.rw_bothgreen_k12_whole_fewest_covers) rfl (by kernel_rfl) (by kernel_rfl)

