import PyProof.Rows.All
import HandS.ForMost
import HandS.ForExc
import HandS.Head0
import HandS.Head1
import HandS.Head2
import HandS.HeadHook1
import HandS.HeadHook2
import PySem.Challenge.RW_bothgreen_k06_whole_texts_of_ratios
import KE.KExcInit
import KE.KExcSuper
import KE.KSuper
import HandS.ExcField
import Wide.All
import OpenK.AllK
import Wide.FinOn
import HandS.IsInst
import HandS.Zip
import HandS.Wide
import HandS.FStr
import HandS.Property
import HandS.Defaults
import HandS.OwnEq
import HandS.ExcInit
import HandS.Lambda
import KE.KOpsOwn
import KE.KCallOwn
import KE.KFmtOwn
import HandS.Style
import PyProof.FactsAll.object_2
import HandS.More
import HandS.NoneIn
import HandS.Text
import HandS.Iter
import HandS.TupAny
import HandS.Deep
import HandS.Conv
import HandS.Comp
import HandS.Star
import HandS.SortInts
import HandS.ClsMeth
import KE.DataMinMax
import HandS.SortKw
import KE.GoesNew
import KE.KDictZip
import KE.GoesMore
import KE.GoesEnum
import KE.GoesRaise
import PyProof.LongRange
import PyProof.GenRules
import PyProof.GenQ
import HandS.GenOver
import HandS.GenList
import HandS.Strs
import HandS.SetBool
import HandS.ExcOwn
import KE.KTryMore
import HandS.ExcValue
import HandS.HotCalls
import HandS.EndTab
import HandS.SetFor
import KE.KxField
import PyProof.StrOps2
set_option Elab.async false
set_option linter.all false
set_option maxRecDepth 100000
set_option maxHeartbeats 4000000
namespace DL
open PySem PySem.Spec PyProof.Rows L2
def recFn (K : PySem.W.Frag) (T : String) (p : Addr) : Addr := match PySem.W.recIn K p T with
  | some (.ref f :: _) => f
  | _ => 0
def staP (K : PySem.W.Frag) (C : Str) (m : Str) : Addr := match PySem.W.findCls K (.ref (He.ga K C)) (.type "type") m with
  | some (.get _ (.ref p) _ _) => p
  | _ => 0
inductive Ad where
  | glo (x : Str)
  | meth (C m : Str)
  | prop (C m : Str)
  | stat (C m : Str)
  | clm (C m : Str)
def Ad.at_ (K : PySem.W.Frag) : Ad → Addr
  | .glo x => He.ga K x
  | .meth C m => He.ma K (He.ga K C) m
  | .prop C m => recFn K "property" (He.ma K (He.ga K C) m)
  | .stat C m => recFn K "staticmethod" (staP K C m)
  | .clm C m => recFn K "classmethod" (staP K C m)
def recB (K : PySem.W.Frag) (T : String) (p : Addr) : Bool := match PySem.W.recIn K p T with
  | some (.ref _ :: _) => true
  | _ => false
theorem recB_ok {K : PySem.W.Frag} {T : String} {p : Addr} (h : recB K T p = true) : ∃ rest, PySem.W.recIn K p T = some (.ref (recFn K T p) :: rest) := by
  unfold recB at h
  unfold recFn
  split at h
  · rename_i a rest e
    exact ⟨rest, by rw [e]⟩
  · cases h
def clmB (K : PySem.W.Frag) (C m : Str) : Bool := match PySem.W.findCls K (.ref (He.ga K C)) (.type "type") m with
  | some (.get (.builtin id) (.ref _) .none (.ref D)) => decide (id = "classmethod.__get__") && decide (D = He.ga K C)
  | _ => false
theorem clmB_ok {K : PySem.W.Frag} {C m : Str} (h : clmB K C m = true) : PySem.W.findCls K (.ref (He.ga K C)) (.type "type") m = some (.get (.builtin "classmethod.__get__") (.ref (staP K C m)) .none (.ref (He.ga K C))) := by
  unfold clmB at h
  unfold staP
  split at h
  · rename_i id p D e
    obtain ⟨h1, h2⟩ := He.ba h
    have e1 := of_decide_eq_true h1
    have e2 := of_decide_eq_true h2
    subst e1 e2
    rw [e]
  · cases h
abbrev FnK : Type := Option (Str × Str × Arguments × FuncBody × Scope × Addr × List (Str × Addr) × Addr)
def fnK (K : PySem.W.Frag) (a : Addr) : FnK := match K.lookup a with
  | some ⟨_, _, .func g, _⟩ => some (g.name, g.qualname, g.params, g.body, g.scope, g.globals, g.closure, g.builtins)
  | _ => none
structure DefK where
  ad : Ad
  name : Str
  qual : Str
  params : Arguments
  body : List Stmt
  scope : Scope
  dfl : List V := []
  kws : List (Str × V) := []
def DefK.seen (d : DefK) : FnK := some (d.name, d.qual, d.params, .stmts d.body, d.scope, mainGlobals, [], builtinsNs)
def DefK.okB (K : PySem.W.Frag) (d : DefK) : Bool := PySem.W.keepIn K (.ref (d.ad.at_ K)) && (match K.lookup (d.ad.at_ K) with
  | some ⟨_, _, .func g, _⟩ => PySem.W.codeIn K g.code d.qual && (He.dflB K g.defaults d.dfl && He.kwdB K g.kwdefaults d.kws)
  | _ => false)
abbrev AlK : Type := Bool × List FnK
def obsK (fs : List (PySem.W.Frag → Bool)) (ds : List DefK) (K : PySem.W.Frag) : AlK := ((fs.all fun f => f K) && ds.all fun d => d.okB K, ds.map fun d => fnK K (d.ad.at_ K))
def valK (ds : List DefK) : AlK := (true, ds.map DefK.seen)
def SaysK (fs : List (PySem.W.Frag → Bool)) (ds : List DefK) (K : PySem.W.Frag) : Prop := obsK fs ds K = valK ds
def subE : Expr → List Expr
  | .List es _ => es
  | .Tuple es _ _ => es
  | .Call f es _ _ => f :: es
  | .BinOp a _ b _ => [a, b]
  | .BoolOp _ es _ => es
  | .Compare a _ bs _ => a :: bs
  | .Subscript a b _ => [a, b]
  | .IfExp c a b _ => [c, a, b]
  | .UnaryOp _ a _ => [a]
  | .Starred a _ => [a]
  | .Attribute a _ _ => [a]
  | _ => []
def subS : Stmt → List Expr
  | .Assign _ v _ => [v]
  | .Return (some v) _ => [v]
  | .Expr v _ => [v]
  | .If c _ _ _ => [c]
  | _ => []
def bodS : Stmt → List Stmt
  | .If _ b o _ => b ++ o
  | .For _ _ b o _ => b ++ o
  | .While _ b o _ => b ++ o
  | .FunctionDef .. => []
  | _ => []
def exAt (e : Expr) : List Nat → Expr
  | [] => e
  | i :: r => exAt ((subE e).getD i e) r
def stAt (s : Stmt) : List Nat → Stmt
  | [] => s
  | i :: r => stAt ((bodS s).getD i s) r
def lamP : Expr → Arguments
  | .Lambda p _ _ _ => p
  | _ => ⟨[], [], none, [], [], none, []⟩
def lamB : Expr → Expr
  | .Lambda _ b _ _ => b
  | e => e
def lamS : Expr → Scope
  | .Lambda _ _ s _ => s
  | _ => default
def funCodeA (K : PySem.W.Frag) (f : Addr) : Value := match K.lookup f with
  | some ⟨_, _, .func fd, _⟩ => fd.code
  | _ => .none
def codeA (K : PySem.W.Frag) (f : Addr) : Addr := match funCodeA K f with
  | .ref c => c
  | _ => 0
def tabA (K : PySem.W.Frag) (f : Addr) : Addr := match K.lookup (codeA K f) with
  | some ⟨_, _, .fields vs, _⟩ => (match vs.getD 11 .none with
    | .ref P => P
    | _ => 0)
  | _ => 0
def codeB (K : PySem.W.Frag) (f : Addr) : Bool := match funCodeA K f with
  | .ref c => (match K.lookup c with
    | some ⟨.type t, _, .fields vs, _⟩ => decide (t = "code") && (match vs.getD 11 .none, vs.getD 18 .none, vs.getD 7 .none, vs.getD 9 .none, vs.getD 10 .none with
      | .ref P, .str _ _, .int _ _, .bool _, .int _ _ => decide (11 < vs.size) && (decide (c ≠ P) && (K.lookup P).isNone)
      | _, _, _, _, _ => false)
    | _ => false)
  | _ => false
def emptyT : Option Obj → Bool
  | some ⟨.none, none, .fields a, sl⟩ => a.isEmpty && sl.isEmpty
  | _ => false
theorem emptyT_ok {o : Option Obj} (h : emptyT o = true) : o = some { cls := .none, data := .fields #[] } := by
  unfold emptyT at h
  split at h
  · obtain ⟨h1, h2⟩ := He.ba h
    rw [Array.isEmpty_iff] at h1 h2
    subst h1 h2
    rfl
  · cases h
abbrev FnKS : Type := Option (Str × Str × Arguments × FuncBody × Scope × Addr × List Str × Addr)
def fnKS (K : PySem.W.Frag) (a : Addr) : FnKS := match K.lookup a with
  | some ⟨_, _, .func g, _⟩ => some (g.name, g.qualname, g.params, g.body, g.scope, g.globals, g.closure.map (·.1), g.builtins)
  | _ => none
def celA (K : PySem.W.Frag) (a : Addr) : Addr := match K.lookup a with
  | some ⟨_, _, .func g, _⟩ => (match g.closure with
    | (_, c) :: _ => c
    | [] => 0)
  | _ => 0
structure DefS where
  ad : Ad
  name : Str
  qual : Str
  params : Arguments
  body : List Stmt
  scope : Scope
  cl : Str
  file : Str
def DefS.seen (d : DefS) : FnKS := some (d.name, d.qual, d.params, .stmts d.body, d.scope, mainGlobals, ["__class__"], builtinsNs)
def fileB (K : PySem.W.Frag) (file : Str) (v : Value) : Bool := match v with
  | .ref c => (match K.lookup c with
    | some ⟨_, _, .fields vs, _⟩ => (match vs.getD 2 .none with
      | .str f _ => decide (2 < vs.size) && (file == f)
      | _ => false)
    | _ => false)
  | _ => false
def DefS.okB (K : PySem.W.Frag) (d : DefS) : Bool := PySem.W.keepIn K (.ref (d.ad.at_ K)) && ((match K.lookup (celA K (d.ad.at_ K)) with
    | some ⟨_, _, .cell (some (.ref D)), _⟩ => decide (D = He.ga K d.cl) && (PySem.W.clsIn K D).isSome
    | _ => false) && (match K.lookup (d.ad.at_ K) with
  | some ⟨_, _, .func g, _⟩ => PySem.W.codeIn K g.code d.qual && (He.dflB K g.defaults [] && fileB K d.file g.code)
  | _ => false))
def refK2 (o : Obj) : List Addr := match o.data with
  | .dict es _ => es.toList.flatMap fun e => He.refV e.val
  | .cls cd => [cd.ns]
  | .func fd => He.refV fd.code ++ (He.refV fd.defaults ++ (He.refV fd.kwdefaults ++ fd.closure.map (·.2)))
  | .cell (some v) => He.refV v
  | .fields vs => (match o.cls with
    | .type c => (match decide (c = "property") || (decide (c = "staticmethod") || decide (c = "classmethod")) with
      | true => vs.toList.flatMap He.refV
      | false => [])
    | _ => [])
  | _ => []
def nextK2 (g : Addr → Option Obj) (l : List Addr) : List Addr := l.flatMap fun a => match g a with
  | some o => refK2 o
  | none => []
def isClsO : Option Obj → Bool
  | some ⟨_, _, .cls _, _⟩ => true
  | _ => false
def asX2 (g : Addr → Option Obj) (l1 : List Addr) (cl ns at_ fu c1 : List Addr) : List Addr := [mainGlobals, cStatics] ++ (cl ++ (ns ++ (at_ ++ (fu ++ (c1 ++ (nextK2 g fu ++ (nextK2 g c1 ++ nextK2 g (nextK2 g fu))))))))
def asX1 (g : Addr → Option Obj) (l1 cl fu : List Addr) : List Addr := asX2 g l1 cl (nextK2 g cl) (nextK2 g (nextK2 g cl)) fu (nextK2 g (nextK2 g (nextK2 g cl)))
def asX0 (g : Addr → Option Obj) (l1 : List Addr) : List Addr := asX1 g l1 (l1.filter fun a => isClsO (g a)) (l1.filter fun a => !isClsO (g a))
def asX (g : Addr → Option Obj) (_ : Nat) : List Addr := asX0 g (nextK2 g [mainGlobals, cStatics])
structure Hd where
  fs : List (PySem.W.Frag → Bool)
  ds : List DefK
  ss : List DefS
  ms : List Str
def codeQ (K : PySem.W.Frag) (a : Addr) : Option Str := match K.lookup a with
  | some ⟨_, _, .func g, _⟩ => (match g.code with
    | .ref c => (match K.lookup c with
      | some ⟨_, _, .fields vs, _⟩ => (match vs.toList with
        | _ :: .str n _ :: _ => some n
        | _ => none)
      | _ => none)
    | _ => none)
  | _ => none
def DefK.okB1 (K : PySem.W.Frag) (d : DefK) : Bool := PySem.W.keepIn K (.ref (d.ad.at_ K)) && (match K.lookup (d.ad.at_ K) with
  | some ⟨_, _, .func g, _⟩ => He.dflB K g.defaults d.dfl && He.kwdB K g.kwdefaults d.kws
  | _ => false)
theorem okB_of {K : PySem.W.Frag} {d : DefK} (h1 : d.okB1 K = true) (h2 : codeQ K (d.ad.at_ K) = some d.qual) : d.okB K = true := by
  unfold DefK.okB1 at h1
  obtain ⟨a1, a2⟩ := He.ba h1
  unfold DefK.okB
  rw [a1, Bool.true_and]
  unfold codeQ at h2
  revert a2 h2
  cases K.lookup (d.ad.at_ K) with
  | none => intro a _; cases a
  | some o =>
    obtain ⟨o1, o2, od, o3⟩ := o
    cases od with
    | func g =>
      intro h2 a2
      dsimp only at a2 h2 ⊢
      rw [a2, Bool.and_true]
      unfold PySem.W.codeIn
      revert h2
      cases g.code with
      | ref cc =>
        intro h2
        dsimp only at h2 ⊢
        revert h2
        cases K.lookup cc with
        | none => intro h; cases h
        | some o =>
          obtain ⟨p1, p2, pd, p3⟩ := o
          cases pd with
          | fields vs =>
            intro h2
            dsimp only at h2 ⊢
            split at h2
            · rename_i n t r e
              obtain rfl := Option.some.inj h2
              simp only [e, beq_self_eq_true]
            · cases h2
          | _ => intro h; cases h
      | _ => intro h; cases h
    | _ => intro a; cases a
abbrev AlX : Type := Bool × List FnK × List FnKS × List (Option Str)
def Hd.obsK (q : Hd) (g : Addr → Option Obj) (K : PySem.W.Frag) : AlX :=
  ((q.fs.all fun f => f K) && ((q.ds.all fun d => d.okB1 K) && ((q.ss.all fun d => d.okB K) && (q.ms.all fun x => codeB K (He.ga K x) && emptyT (g (tabA K (He.ga K x)))))), q.ds.map fun d => fnK K (d.ad.at_ K), q.ss.map fun d => fnKS K (d.ad.at_ K), q.ds.map fun d => codeQ K (d.ad.at_ K))
def Hd.val (q : Hd) : AlX := (true, q.ds.map DefK.seen, q.ss.map DefS.seen, q.ds.map fun d => some d.qual)
def Hd.obsG (q : Hd) (n : Nat) (g : Addr → Option Obj) : AlX := q.obsK g (He.frG g (asX g n))
structure Hd.Says (q : Hd) (h : Heap) (K : PySem.W.Frag) : Prop where
  kin : K.In h
  fs : ∀ f ∈ q.fs, f K = true
  ds : ∀ d ∈ q.ds, d.okB K = true
  ss : ∀ d ∈ q.ss, d.okB K = true
  ms : ∀ x ∈ q.ms, codeB K (He.ga K x) = true ∧ h.get? (tabA K (He.ga K x)) = some { cls := .none, data := .fields #[] }
  dk : q.ds.map (fun d => fnK K (d.ad.at_ K)) = q.ds.map DefK.seen
  sk : q.ss.map (fun d => fnKS K (d.ad.at_ K)) = q.ss.map DefS.seen
def Hd.hook (q : Hd) (n : Nat) : PySem.W.Hook where
  α := AlX
  obs := fun s => q.obsG n s.heap.get?
  val := fun _ => q.val
  says := fun _ h => ∃ K : PySem.W.Frag, q.Says h K
  of := fun _ s e => by
    have e : q.obsK s.heap.get? (He.frG s.heap.get? (asX s.heap.get? n)) = q.val := e
    generalize hK : He.frG s.heap.get? (asX s.heap.get? n) = K at e
    have e1 := congrArg Prod.fst e
    have e2 := congrArg (fun z : AlX => z.2.1) e
    have e3 := congrArg (fun z : AlX => z.2.2.1) e
    have e4 : (q.ds.map fun d => codeQ K (d.ad.at_ K)) = q.ds.map fun d => some d.qual := congrArg (fun z : AlX => z.2.2.2) e
    have e1 : ((q.fs.all fun f => f K) && ((q.ds.all fun d => d.okB1 K) && ((q.ss.all fun d => d.okB K) && (q.ms.all fun x => codeB K (He.ga K x) && emptyT (s.heap.get? (tabA K (He.ga K x))))))) = true := e1
    obtain ⟨a1, e1⟩ := He.ba e1
    obtain ⟨a2, e1⟩ := He.ba e1
    obtain ⟨a3, a4⟩ := He.ba e1
    refine ⟨K, by rw [← hK]; exact He.frG_in, List.all_eq_true.mp a1, fun d hd => okB_of (List.all_eq_true.mp a2 d hd) (List.map_inj_left.mp e4 d hd), List.all_eq_true.mp a3, fun x hx => ?_, e2, e3⟩
    obtain ⟨b1, b2⟩ := He.ba (List.all_eq_true.mp a4 x hx)
    exact ⟨b1, emptyT_ok b2⟩
  keeps := fun _ _ _ ⟨K, c⟩ k => ⟨K, PySem.W.Frag.In.keeps c.kin k, c.fs, c.ds, c.ss, fun x hx => ⟨(c.ms x hx).1, k _ _ (c.ms x hx).2⟩, c.dk, c.sk⟩
theorem Hd.obs_eq {q : Hd} {n : Nat} {g : Addr → Option Obj} {s : Shared} (h : ∀ a, g a = s.heap.get? a) : q.obsG n g = (q.hook n).obs s := by
  obtain rfl : g = s.heap.get? := funext h
  rfl
open PySem.W PySem.Calls in
noncomputable def EndE (r : PySem.W.OpenRow) (M : Nat) (w : World) (os : OsState) : Option PySem.W.SharedT := HandSHeadRun.endF (HandSHeadRun.stepQ (HandSHeadRun.denQ HandSHeadRun.tabQ) r.prog w) M r.prog w os
open PySem.W PySem.Calls in
open PySem.W PySem.Calls in
def AskE (r : PySem.W.OpenRow) (Q : Hd) (M : Nat) (w : World) : Prop := ∀ os : OsState, (EndE r M w os).map (fun s => Q.obsG 5 (HandSHeadRun.getT s)) = some Q.val
theorem ba_of {a b : Bool} (h1 : a = true) (h2 : b = true) : (a && b) = true := by rw [h1, h2]; rfl
def Hd.app (a b : Hd) : Hd := ⟨a.fs ++ b.fs, a.ds ++ b.ds, a.ss ++ b.ss, a.ms ++ b.ms⟩
theorem Hd.val_iff {q : Hd} {g : Addr → Option Obj} {K : PySem.W.Frag} : q.obsK g K = q.val ↔ (((q.fs.all fun f => f K) && ((q.ds.all fun d => d.okB1 K) && ((q.ss.all fun d => d.okB K) && (q.ms.all fun x => codeB K (He.ga K x) && emptyT (g (tabA K (He.ga K x))))))) = true ∧ q.ds.map (fun d => fnK K (d.ad.at_ K)) = q.ds.map DefK.seen ∧ q.ss.map (fun d => fnKS K (d.ad.at_ K)) = q.ss.map DefS.seen ∧ (q.ds.map fun d => codeQ K (d.ad.at_ K)) = q.ds.map fun d => some d.qual) := by
  unfold Hd.obsK Hd.val
  rw [Prod.mk.injEq, Prod.mk.injEq, Prod.mk.injEq]
theorem Hd.join {a b : Hd} {g : Addr → Option Obj} {K : PySem.W.Frag} (h1 : a.obsK g K = a.val) (h2 : b.obsK g K = b.val) : (a.app b).obsK g K = (a.app b).val := by
  rw [Hd.val_iff] at h1 h2 ⊢
  obtain ⟨a1, a2, a3, a4⟩ := h1
  obtain ⟨b1, b2, b3, b4⟩ := h2
  obtain ⟨p1, a1⟩ := He.ba a1
  obtain ⟨p2, a1⟩ := He.ba a1
  obtain ⟨p3, p4⟩ := He.ba a1
  obtain ⟨r1, b1⟩ := He.ba b1
  obtain ⟨r2, b1⟩ := He.ba b1
  obtain ⟨r3, r4⟩ := He.ba b1
  unfold Hd.app
  dsimp only
  refine ⟨?_, ?_, ?_, ?_⟩
  · rw [List.all_append, List.all_append, List.all_append, List.all_append]
    exact ba_of (ba_of p1 r1) (ba_of (ba_of p2 r2) (ba_of (ba_of p3 r3) (ba_of p4 r4)))
  · rw [List.map_append, List.map_append, a2, b2]
  · rw [List.map_append, List.map_append, a3, b3]
  · rw [List.map_append, List.map_append, a4, b4]
theorem AskE.join {r : PySem.W.OpenRow} {a b : Hd} {M : Nat} {w : World} (h1 : AskE r a M w) (h2 : AskE r b M w) : AskE r (a.app b) M w := fun os => by
  have k1 := h1 os
  have k2 := h2 os
  cases e : EndE r M w os with
  | none => rw [e] at k1; cases k1
  | some s =>
    rw [e] at k1 k2
    have k1 := Option.some.inj k1
    have k2 := Option.some.inj k2
    exact congrArg some (Hd.join k1 k2)
end DL

set_option maxHeartbeats 0
namespace W
open PySem PySem.Spec PyProof.Rows L2 DL
def topS (i : Nat) : Stmt := PySem.Challenge.pw_bothgreen_k06_whole_texts_of_ratios.main.body.getD i (.Pass ⟨0, 0, 0, 0⟩)
abbrev s_w_begin : Stmt := (topS 15)
abbrev s_w_take : Stmt := (topS 16)
abbrev s_w_one : Stmt := (topS 17)
abbrev s_w_divisor : Stmt := (topS 21)
abbrev s_w_frac : Stmt := (topS 22)
abbrev s_w_any_frac : Stmt := (topS 25)
abbrev s_w_word : Stmt := (topS 24)
abbrev s_CycleErrorD_initD : Stmt := (inClass (topS 2) 0)
abbrev s_InvalidRatioD_initD : Stmt := (inClass (topS 4) 0)
abbrev s_whole_in : Stmt := (topS 12)
abbrev s_is_whole : Stmt := (topS 7)
abbrev s_common_divisor : Stmt := (topS 11)
abbrev s_RatioD_initD : Stmt := (inClass (topS 13) 0)
abbrev s_RatioD_strD : Stmt := (inClass (topS 13) 14)
abbrev s_Ratio_read : Stmt := (inClass (topS 13) 1)
abbrev s_Ratio_bottom : Stmt := (inClass (topS 13) 3)
abbrev s_Ratio_top : Stmt := (inClass (topS 13) 2)
abbrev s_w_parts : Stmt := (topS 23)
abbrev s_RatioD_eqD : Stmt := (inClass (topS 13) 12)
abbrev s_w_like : Stmt := (topS 18)
abbrev s_w_ratio_in : Stmt := (topS 26)
abbrev s_w_field : Stmt := (topS 19)
abbrev s_w_try : Stmt := (topS 20)
abbrev s_law : Stmt := (topS 27)
end W

set_option maxHeartbeats 0
namespace W
open PySem PySem.Spec PyProof.Rows L2 DL
abbrev dk0 : DefK := ⟨.glo "_law_begin", "_law_begin", "_law_begin", defArgs s_w_begin, defBody s_w_begin, defScope s_w_begin, [], []⟩
abbrev dk1 : DefK := ⟨.glo "_law_take", "_law_take", "_law_take", defArgs s_w_take, defBody s_w_take, defScope s_w_take, [], []⟩
abbrev dk2 : DefK := ⟨.glo "_law_one", "_law_one", "_law_one", defArgs s_w_one, defBody s_w_one, defScope s_w_one, [], []⟩
abbrev dk3 : DefK := ⟨.glo "_law_divisor", "_law_divisor", "_law_divisor", defArgs s_w_divisor, defBody s_w_divisor, defScope s_w_divisor, [], []⟩
abbrev dk4 : DefK := ⟨.glo "_law_frac", "_law_frac", "_law_frac", defArgs s_w_frac, defBody s_w_frac, defScope s_w_frac, [], []⟩
abbrev dk5 : DefK := ⟨.glo "_law_any_frac", "_law_any_frac", "_law_any_frac", defArgs s_w_any_frac, defBody s_w_any_frac, defScope s_w_any_frac, [], []⟩
abbrev dk6 : DefK := ⟨.glo "_law_word", "_law_word", "_law_word", defArgs s_w_word, defBody s_w_word, defScope s_w_word, [], []⟩
abbrev dS0 : DefS := ⟨.meth "CycleError" "__init__", "__init__", "CycleError.__init__", defArgs s_CycleErrorD_initD, defBody s_CycleErrorD_initD, defScope s_CycleErrorD_initD, "CycleError", PySem.Challenge.pw_bothgreen_k06_whole_texts_of_ratios.main.file⟩
abbrev dS1 : DefS := ⟨.meth "InvalidRatio" "__init__", "__init__", "InvalidRatio.__init__", defArgs s_InvalidRatioD_initD, defBody s_InvalidRatioD_initD, defScope s_InvalidRatioD_initD, "InvalidRatio", PySem.Challenge.pw_bothgreen_k06_whole_texts_of_ratios.main.file⟩
abbrev dk7 : DefK := ⟨.glo "whole_in", "whole_in", "whole_in", defArgs s_whole_in, defBody s_whole_in, defScope s_whole_in, [], []⟩
abbrev dk8 : DefK := ⟨.glo "is_whole", "is_whole", "is_whole", defArgs s_is_whole, defBody s_is_whole, defScope s_is_whole, [], []⟩
abbrev dk9 : DefK := ⟨.glo "common_divisor", "common_divisor", "common_divisor", defArgs s_common_divisor, defBody s_common_divisor, defScope s_common_divisor, [], []⟩
abbrev dk10 : DefK := ⟨.meth "Ratio" "__init__", "__init__", "Ratio.__init__", defArgs s_RatioD_initD, defBody s_RatioD_initD, defScope s_RatioD_initD, [.int 1], []⟩
abbrev dk11 : DefK := ⟨.meth "Ratio" "__str__", "__str__", "Ratio.__str__", defArgs s_RatioD_strD, defBody s_RatioD_strD, defScope s_RatioD_strD, [], []⟩
abbrev dk12 : DefK := ⟨.clm "Ratio" "read", "read", "Ratio.read", defArgs s_Ratio_read, defBody s_Ratio_read, defScope s_Ratio_read, [], []⟩
abbrev dk13 : DefK := ⟨.prop "Ratio" "bottom", "bottom", "Ratio.bottom", defArgs s_Ratio_bottom, defBody s_Ratio_bottom, defScope s_Ratio_bottom, [], []⟩
abbrev dk14 : DefK := ⟨.prop "Ratio" "top", "top", "Ratio.top", defArgs s_Ratio_top, defBody s_Ratio_top, defScope s_Ratio_top, [], []⟩
abbrev dk15 : DefK := ⟨.glo "_law_parts", "_law_parts", "_law_parts", defArgs s_w_parts, defBody s_w_parts, defScope s_w_parts, [], []⟩
abbrev dk16 : DefK := ⟨.meth "Ratio" "__eq__", "__eq__", "Ratio.__eq__", defArgs s_RatioD_eqD, defBody s_RatioD_eqD, defScope s_RatioD_eqD, [], []⟩
abbrev dk17 : DefK := ⟨.glo "_law_like", "_law_like", "_law_like", defArgs s_w_like, defBody s_w_like, defScope s_w_like, [], []⟩
abbrev dk18 : DefK := ⟨.glo "_law_ratio_in", "_law_ratio_in", "_law_ratio_in", defArgs s_w_ratio_in, defBody s_w_ratio_in, defScope s_w_ratio_in, [], []⟩
abbrev dk19 : DefK := ⟨.glo "_law_field", "_law_field", "_law_field", defArgs s_w_field, defBody s_w_field, defScope s_w_field, [], []⟩
abbrev dk20 : DefK := ⟨.glo "_law_try", "_law_try", "_law_try", defArgs s_w_try, defBody s_w_try, defScope s_w_try, [], []⟩
abbrev dk21 : DefK := ⟨.glo "law", "law", "law", defArgs s_law, defBody s_law, defScope s_law, [], []⟩
def q0 (K : PySem.W.Frag) : Bool := (He.Fa.free "super").ok K
def q1 (K : PySem.W.Frag) : Bool := He.eqO (PySem.W.nsIn K cStatics "thirdparty.any") (some none)
def q2 (K : PySem.W.Frag) : Bool := (He.Fa.glo "_law_begin").ok K
def q3 (K : PySem.W.Frag) : Bool := (He.Fa.glo "_law_take").ok K
def q4 (K : PySem.W.Frag) : Bool := (He.Fa.glo "_law_one").ok K
def q5 (K : PySem.W.Frag) : Bool := (He.Fa.glo "_law_divisor").ok K
def q6 (K : PySem.W.Frag) : Bool := (He.Fa.glo "_law_frac").ok K
def q7 (K : PySem.W.Frag) : Bool := (He.Fa.glo "_law_any_frac").ok K
def q8 (K : PySem.W.Frag) : Bool := (He.Fa.glo "_law_word").ok K
def q9 (K : PySem.W.Frag) : Bool := He.eqO (PySem.W.findIn K (.ref (He.ga K "CycleError")) "__init__") (some (some (.ref (He.ma K (He.ga K "CycleError") "__init__"))))
def q10 (K : PySem.W.Frag) : Bool := PySem.W.isFn K (.ref (He.ma K (He.ga K "CycleError") "__init__"))
def q11 (K : PySem.W.Frag) : Bool := decide (PySem.W.typeIn K (.ref (He.ma K (He.ga K "CycleError") "__init__")) = some (.type "function"))
def q12 (K : PySem.W.Frag) : Bool := PySem.W.fnIn K (He.ma K (He.ga K "CycleError") "__init__")
def q13 (K : PySem.W.Frag) : Bool := He.eqO (PySem.W.ks_superIn K (He.ga K "InvalidRatio") (He.ga K "InvalidRatio") "__init__") (some (some (.ref (He.ma K (He.ga K "CycleError") "__init__"))))
def q14 (K : PySem.W.Frag) : Bool := decide (PySem.W.mroIn K (He.ga K "InvalidRatio") (.ref (He.ga K "InvalidRatio")) = some true)
def q15 (K : PySem.W.Frag) : Bool := He.eqO (PySem.W.findIn K (.ref (He.ga K "InvalidRatio")) "__init__") (some (some (.ref (He.ma K (He.ga K "InvalidRatio") "__init__"))))
def q16 (K : PySem.W.Frag) : Bool := PySem.W.isFn K (.ref (He.ma K (He.ga K "InvalidRatio") "__init__"))
def q17 (K : PySem.W.Frag) : Bool := decide (PySem.W.typeIn K (.ref (He.ma K (He.ga K "InvalidRatio") "__init__")) = some (.type "function"))
def q18 (K : PySem.W.Frag) : Bool := PySem.W.fnIn K (He.ma K (He.ga K "InvalidRatio") "__init__")
def q19 (K : PySem.W.Frag) : Bool := (He.Fa.glo "whole_in").ok K
def q20 (K : PySem.W.Frag) : Bool := (He.Fa.glo "is_whole").ok K
def q21 (K : PySem.W.Frag) : Bool := (He.Fa.glo "common_divisor").ok K
def q22 (K : PySem.W.Frag) : Bool := He.eqO (PySem.W.findIn K (.ref (He.ga K "Ratio")) "__init__") (some (some (.ref (He.ma K (He.ga K "Ratio") "__init__"))))
def q23 (K : PySem.W.Frag) : Bool := PySem.W.isFn K (.ref (He.ma K (He.ga K "Ratio") "__init__"))
def q24 (K : PySem.W.Frag) : Bool := He.eqO (PySem.W.findIn K (.ref (He.ga K "Ratio")) "__str__") (some (some (.ref (He.ma K (He.ga K "Ratio") "__str__"))))
def q25 (K : PySem.W.Frag) : Bool := PySem.W.isFn K (.ref (He.ma K (He.ga K "Ratio") "__str__"))
def q26 (K : PySem.W.Frag) : Bool := PySem.W.readsIn K (He.ga K "Ratio") (.type "type")
def q27 (K : PySem.W.Frag) : Bool := He.eqO (PySem.W.specialIn K (.ref (He.ga K "Ratio")) "__getattribute__") (some (some (.builtin "type.__getattribute__")))
def q28 (K : PySem.W.Frag) : Bool := clmB K "Ratio" "read"
def q29 (K : PySem.W.Frag) : Bool := recB K "classmethod" (staP K "Ratio" "read")
def q30 (K : PySem.W.Frag) : Bool := PySem.W.fnIn K (recFn K "classmethod" (staP K "Ratio" "read"))
def q31 (K : PySem.W.Frag) : Bool := He.eqO (PySem.W.specialIn K (.ref (He.ma K (He.ga K "Ratio") "bottom")) "__get__") (some (some (.builtin "property.__get__")))
def q32 (K : PySem.W.Frag) : Bool := decide (PySem.W.takesIn K (.ref (He.ma K (He.ga K "Ratio") "bottom")) = some true)
def q33 (K : PySem.W.Frag) : Bool := recB K "property" (He.ma K (He.ga K "Ratio") "bottom")
def q34 (K : PySem.W.Frag) : Bool := He.eqO (PySem.W.findIn K (.ref (He.ga K "Ratio")) "bottom") (some (some (.ref (He.ma K (He.ga K "Ratio") "bottom"))))
def q35 (K : PySem.W.Frag) : Bool := He.eqO (PySem.W.specialIn K (.ref (He.ma K (He.ga K "Ratio") "top")) "__get__") (some (some (.builtin "property.__get__")))
def q36 (K : PySem.W.Frag) : Bool := decide (PySem.W.takesIn K (.ref (He.ma K (He.ga K "Ratio") "top")) = some true)
def q37 (K : PySem.W.Frag) : Bool := recB K "property" (He.ma K (He.ga K "Ratio") "top")
def q38 (K : PySem.W.Frag) : Bool := He.eqO (PySem.W.findIn K (.ref (He.ga K "Ratio")) "top") (some (some (.ref (He.ma K (He.ga K "Ratio") "top"))))
def q39 (K : PySem.W.Frag) : Bool := (He.Fa.glo "_law_parts").ok K
def q40 (K : PySem.W.Frag) : Bool := He.eqO (PySem.W.findIn K (.ref (He.ga K "Ratio")) "__eq__") (some (some (.ref (He.ma K (He.ga K "Ratio") "__eq__"))))
def q41 (K : PySem.W.Frag) : Bool := PySem.W.isFn K (.ref (He.ma K (He.ga K "Ratio") "__eq__"))
def q42 (K : PySem.W.Frag) : Bool := (He.Fa.glo "_law_like").ok K
def q43 (K : PySem.W.Frag) : Bool := (He.Fa.glo "_law_ratio_in").ok K
def q44 (K : PySem.W.Frag) : Bool := (He.Fa.glo "_law_field").ok K
def q45 (K : PySem.W.Frag) : Bool := (He.Fa.glo "_law_try").ok K
def q46 (K : PySem.W.Frag) : Bool := (He.Fa.glo "law").ok K
def q47 (K : PySem.W.Frag) : Bool := (He.Fa.free "abs").ok K
def q48 (K : PySem.W.Frag) : Bool := (He.Fa.free "all").ok K
def q49 (K : PySem.W.Frag) : Bool := (He.Fa.free "bool").ok K
def q50 (K : PySem.W.Frag) : Bool := (He.Fa.free "int").ok K
def q51 (K : PySem.W.Frag) : Bool := (He.Fa.free "isinstance").ok K
def q52 (K : PySem.W.Frag) : Bool := (He.Fa.free "len").ok K
def q53 (K : PySem.W.Frag) : Bool := (He.Fa.free "list").ok K
def q54 (K : PySem.W.Frag) : Bool := (He.Fa.free "range").ok K
def q55 (K : PySem.W.Frag) : Bool := (He.Fa.free "str").ok K
def q56 (K : PySem.W.Frag) : Bool := (He.Fa.free "tuple").ok K
def q57 (K : PySem.W.Frag) : Bool := (He.Fa.free "zip").ok K
def q58 (K : PySem.W.Frag) : Bool := (He.Fa.str "FIGURES" "0123456789").ok K
def q59 (K : PySem.W.Frag) : Bool := (He.Fa.int "LONGEST_TEXT" 100).ok K
def q60 (K : PySem.W.Frag) : Bool := (He.Fa.glo "CycleError").ok K
def q61 (K : PySem.W.Frag) : Bool := (He.Fa.glo "InvalidRatio").ok K
def q62 (K : PySem.W.Frag) : Bool := (He.Fa.glo "Missing").ok K
def q63 (K : PySem.W.Frag) : Bool := (He.Fa.glo "NothingLeft").ok K
def q64 (K : PySem.W.Frag) : Bool := (He.Fa.cls "Ratio").ok K
def q65 (K : PySem.W.Frag) : Bool := (He.Fa.glo "Ratio").ok K
def q66 (K : PySem.W.Frag) : Bool := PySem.W.excInitIn K (He.ga K "InvalidRatio") [.type "ValueError", .type "Exception", .type "BaseException", .type "object"] "ValueError.__new__"
def q67 (K : PySem.W.Frag) : Bool := PySem.W.hasDictIn K (He.ga K "InvalidRatio")
def q68 (K : PySem.W.Frag) : Bool := He.eqO (PySem.W.findIn K (.ref (He.ga K "InvalidRatio")) "__setattr__") (some (some (.builtin "object.__setattr__")))
def q69 (K : PySem.W.Frag) : Bool := decide (PySem.W.subIn K (.ref (He.ga K "InvalidRatio")) (.type "BaseException") = some true)
def q70 (K : PySem.W.Frag) : Bool := decide (PySem.W.typeIn K (.ref (He.ga K "InvalidRatio")) = some (.type "type"))
def q71 (K : PySem.W.Frag) : Bool := PySem.W.keepIn K (.ref (He.ga K "InvalidRatio"))
def q72 (K : PySem.W.Frag) : Bool := xfB K (He.ga K "InvalidRatio")
def q73 (K : PySem.W.Frag) : Bool := He.eqO (PySem.W.findIn K (.ref (He.ga K "InvalidRatio")) "code") (some none)
def q74 (K : PySem.W.Frag) : Bool := He.eqO (PySem.W.findIn K (.ref (He.ga K "InvalidRatio")) "given") (some none)
def q75 (K : PySem.W.Frag) : Bool := PySem.W.excInitIn K (He.ga K "InvalidRatio") [.type "ValueError", .type "Exception", .type "BaseException", .type "object"] "ValueError.__new__"
def q76 (K : PySem.W.Frag) : Bool := He.eqO (PySem.W.ks_superIn K (He.ga K "InvalidRatio") (He.ga K "CycleError") "__init__") (some (some (.builtin "ValueError.__init__")))
def q77 (K : PySem.W.Frag) : Bool := decide (PySem.W.mroIn K (He.ga K "InvalidRatio") (.ref (He.ga K "CycleError")) = some true)
def q78 (K : PySem.W.Frag) : Bool := decide (PySem.W.subIn K (.ref (He.ga K "InvalidRatio")) (.type "ValueError") = some true)
def q79 (K : PySem.W.Frag) : Bool := decide (PySem.W.exmAny K (.ref (He.ga K "InvalidRatio")) [.ref (He.ga K "CycleError"), .ref (He.ga K "Missing"), .ref (He.ga K "NothingLeft")] = some true)
def q80 (K : PySem.W.Frag) : Bool := PySem.W.makesIn K (He.ga K "Ratio")
def q81 (K : PySem.W.Frag) : Bool := PySem.W.keepIn K (.ref (He.ga K "Ratio"))
def q82 (K : PySem.W.Frag) : Bool := (He.Fa.noat "Ratio" "own_bottom").ok K
def q83 (K : PySem.W.Frag) : Bool := (He.Fa.noat "Ratio" "own_top").ok K
def q84 (K : PySem.W.Frag) : Bool := He.eqO (PySem.W.specialIn K (.builtin "object.__class__") "__get__") (some (some (.builtin "getset_descriptor.__get__")))
def q85 (K : PySem.W.Frag) : Bool := decide (PySem.W.takesIn K (.builtin "object.__class__") = some true)
def q86 (K : PySem.W.Frag) : Bool := He.eqO (PySem.W.findIn K (.ref (He.ga K "Ratio")) "__class__") (some (some (.builtin "object.__class__")))
def q87 (K : PySem.W.Frag) : Bool := decide (PySem.W.mroIn K (He.ga K "Ratio") (.type "object") = some true)
def q88 (K : PySem.W.Frag) : Bool := PySem.W.notFirst K (He.ga K "Ratio") (.type "NoneType")
def q89 (K : PySem.W.Frag) : Bool := PySem.W.notFirst K (He.ga K "Ratio") (.type "bool")
def q90 (K : PySem.W.Frag) : Bool := PySem.W.notFirst K (He.ga K "Ratio") (.type "int")
def q91 (K : PySem.W.Frag) : Bool := PySem.W.notFirst K (He.ga K "Ratio") (.type "list")
def q92 (K : PySem.W.Frag) : Bool := PySem.W.notFirst K (He.ga K "Ratio") (.type "str")
def q93 (K : PySem.W.Frag) : Bool := PySem.W.notFirst K (He.ga K "Ratio") (.type "tuple")
def q94 (K : PySem.W.Frag) : Bool := decide (PySem.W.kitAny K (.type "NoneType") [.ref (He.ga K "Ratio")] = some false)
def q95 (K : PySem.W.Frag) : Bool := decide (PySem.W.kitAny K (.type "bool") [.ref (He.ga K "Ratio")] = some false)
def q96 (K : PySem.W.Frag) : Bool := decide (PySem.W.kitAny K (.type "int") [.ref (He.ga K "Ratio")] = some false)
def q97 (K : PySem.W.Frag) : Bool := decide (PySem.W.kitAny K (.type "str") [.ref (He.ga K "Ratio")] = some false)
def q98 (K : PySem.W.Frag) : Bool := decide (PySem.W.kitAny K (.type "tuple") [.ref (He.ga K "Ratio")] = some false)
def q99 (K : PySem.W.Frag) : Bool := decide (PySem.W.kitAny K (.type "list") [.ref (He.ga K "Ratio")] = some false)
def q100 (K : PySem.W.Frag) : Bool := decide (PySem.W.kitAny K (.type "NoneType") [.ref (He.ga K "Ratio")] = some false)
def q101 (K : PySem.W.Frag) : Bool := decide (PySem.W.kitAny K (.type "bool") [.ref (He.ga K "Ratio")] = some false)
def q102 (K : PySem.W.Frag) : Bool := decide (PySem.W.kitAny K (.type "int") [.ref (He.ga K "Ratio")] = some false)
def q103 (K : PySem.W.Frag) : Bool := decide (PySem.W.kitAny K (.type "str") [.ref (He.ga K "Ratio")] = some false)
def q104 (K : PySem.W.Frag) : Bool := decide (PySem.W.kitAny K (.type "tuple") [.ref (He.ga K "Ratio")] = some false)
def q105 (K : PySem.W.Frag) : Bool := decide (PySem.W.kitAny K (.type "list") [.ref (He.ga K "Ratio")] = some false)
def q106 (K : PySem.W.Frag) : Bool := decide (PySem.W.kitAny K (.ref (He.ga K "Ratio")) [.ref (He.ga K "Ratio")] = some true)
def q107 (K : PySem.W.Frag) : Bool := decide (PySem.W.kitAny K (.type "NoneType") [.type "bool"] = some false)
def q108 (K : PySem.W.Frag) : Bool := decide (PySem.W.kitAny K (.type "bool") [.type "bool"] = some true)
def q109 (K : PySem.W.Frag) : Bool := decide (PySem.W.kitAny K (.type "int") [.type "bool"] = some false)
def q110 (K : PySem.W.Frag) : Bool := decide (PySem.W.kitAny K (.type "str") [.type "bool"] = some false)
def q111 (K : PySem.W.Frag) : Bool := decide (PySem.W.kitAny K (.type "tuple") [.type "bool"] = some false)
def q112 (K : PySem.W.Frag) : Bool := decide (PySem.W.kitAny K (.type "list") [.type "bool"] = some false)
def q113 (K : PySem.W.Frag) : Bool := decide (PySem.W.kitAny K (.type "NoneType") [.type "bool"] = some false)
def q114 (K : PySem.W.Frag) : Bool := decide (PySem.W.kitAny K (.type "bool") [.type "bool"] = some true)
def q115 (K : PySem.W.Frag) : Bool := decide (PySem.W.kitAny K (.type "int") [.type "bool"] = some false)
def q116 (K : PySem.W.Frag) : Bool := decide (PySem.W.kitAny K (.type "str") [.type "bool"] = some false)
def q117 (K : PySem.W.Frag) : Bool := decide (PySem.W.kitAny K (.type "tuple") [.type "bool"] = some false)
def q118 (K : PySem.W.Frag) : Bool := decide (PySem.W.kitAny K (.type "list") [.type "bool"] = some false)
def q119 (K : PySem.W.Frag) : Bool := decide (PySem.W.kitAny K (.ref (He.ga K "Ratio")) [.type "bool"] = some false)
def q120 (K : PySem.W.Frag) : Bool := decide (PySem.W.kitAny K (.type "NoneType") [.type "int"] = some false)
def q121 (K : PySem.W.Frag) : Bool := decide (PySem.W.kitAny K (.type "bool") [.type "int"] = some true)
def q122 (K : PySem.W.Frag) : Bool := decide (PySem.W.kitAny K (.type "int") [.type "int"] = some true)
def q123 (K : PySem.W.Frag) : Bool := decide (PySem.W.kitAny K (.type "str") [.type "int"] = some false)
def q124 (K : PySem.W.Frag) : Bool := decide (PySem.W.kitAny K (.type "tuple") [.type "int"] = some false)
def q125 (K : PySem.W.Frag) : Bool := decide (PySem.W.kitAny K (.type "list") [.type "int"] = some false)
def q126 (K : PySem.W.Frag) : Bool := decide (PySem.W.kitAny K (.type "NoneType") [.type "int"] = some false)
def q127 (K : PySem.W.Frag) : Bool := decide (PySem.W.kitAny K (.type "bool") [.type "int"] = some true)
def q128 (K : PySem.W.Frag) : Bool := decide (PySem.W.kitAny K (.type "int") [.type "int"] = some true)
def q129 (K : PySem.W.Frag) : Bool := decide (PySem.W.kitAny K (.type "str") [.type "int"] = some false)
def q130 (K : PySem.W.Frag) : Bool := decide (PySem.W.kitAny K (.type "tuple") [.type "int"] = some false)
def q131 (K : PySem.W.Frag) : Bool := decide (PySem.W.kitAny K (.type "list") [.type "int"] = some false)
def q132 (K : PySem.W.Frag) : Bool := decide (PySem.W.kitAny K (.ref (He.ga K "Ratio")) [.type "int"] = some false)
def q133 (K : PySem.W.Frag) : Bool := decide (PySem.W.kitAny K (.type "NoneType") [.type "list"] = some false)
def q134 (K : PySem.W.Frag) : Bool := decide (PySem.W.kitAny K (.type "bool") [.type "list"] = some false)
def q135 (K : PySem.W.Frag) : Bool := decide (PySem.W.kitAny K (.type "int") [.type "list"] = some false)
def q136 (K : PySem.W.Frag) : Bool := decide (PySem.W.kitAny K (.type "str") [.type "list"] = some false)
def q137 (K : PySem.W.Frag) : Bool := decide (PySem.W.kitAny K (.type "tuple") [.type "list"] = some false)
def q138 (K : PySem.W.Frag) : Bool := decide (PySem.W.kitAny K (.type "list") [.type "list"] = some true)
def q139 (K : PySem.W.Frag) : Bool := decide (PySem.W.kitAny K (.type "NoneType") [.type "list"] = some false)
def q140 (K : PySem.W.Frag) : Bool := decide (PySem.W.kitAny K (.type "bool") [.type "list"] = some false)
def q141 (K : PySem.W.Frag) : Bool := decide (PySem.W.kitAny K (.type "int") [.type "list"] = some false)
def q142 (K : PySem.W.Frag) : Bool := decide (PySem.W.kitAny K (.type "str") [.type "list"] = some false)
def q143 (K : PySem.W.Frag) : Bool := decide (PySem.W.kitAny K (.type "tuple") [.type "list"] = some false)
def q144 (K : PySem.W.Frag) : Bool := decide (PySem.W.kitAny K (.type "list") [.type "list"] = some true)
def q145 (K : PySem.W.Frag) : Bool := decide (PySem.W.kitAny K (.ref (He.ga K "Ratio")) [.type "list"] = some false)
def q146 (K : PySem.W.Frag) : Bool := decide (PySem.W.kitAny K (.type "NoneType") [.type "list", .type "tuple"] = some false)
def q147 (K : PySem.W.Frag) : Bool := decide (PySem.W.kitAny K (.type "bool") [.type "list", .type "tuple"] = some false)
def q148 (K : PySem.W.Frag) : Bool := decide (PySem.W.kitAny K (.type "int") [.type "list", .type "tuple"] = some false)
def q149 (K : PySem.W.Frag) : Bool := decide (PySem.W.kitAny K (.type "str") [.type "list", .type "tuple"] = some false)
def q150 (K : PySem.W.Frag) : Bool := decide (PySem.W.kitAny K (.type "tuple") [.type "list", .type "tuple"] = some true)
def q151 (K : PySem.W.Frag) : Bool := decide (PySem.W.kitAny K (.type "list") [.type "list", .type "tuple"] = some true)
def q152 (K : PySem.W.Frag) : Bool := decide (PySem.W.kitAny K (.type "NoneType") [.type "str"] = some false)
def q153 (K : PySem.W.Frag) : Bool := decide (PySem.W.kitAny K (.type "bool") [.type "str"] = some false)
def q154 (K : PySem.W.Frag) : Bool := decide (PySem.W.kitAny K (.type "int") [.type "str"] = some false)
def q155 (K : PySem.W.Frag) : Bool := decide (PySem.W.kitAny K (.type "str") [.type "str"] = some true)
def q156 (K : PySem.W.Frag) : Bool := decide (PySem.W.kitAny K (.type "tuple") [.type "str"] = some false)
def q157 (K : PySem.W.Frag) : Bool := decide (PySem.W.kitAny K (.type "list") [.type "str"] = some false)
def q158 (K : PySem.W.Frag) : Bool := decide (PySem.W.kitAny K (.type "NoneType") [.type "str"] = some false)
def q159 (K : PySem.W.Frag) : Bool := decide (PySem.W.kitAny K (.type "bool") [.type "str"] = some false)
def q160 (K : PySem.W.Frag) : Bool := decide (PySem.W.kitAny K (.type "int") [.type "str"] = some false)
def q161 (K : PySem.W.Frag) : Bool := decide (PySem.W.kitAny K (.type "str") [.type "str"] = some true)
def q162 (K : PySem.W.Frag) : Bool := decide (PySem.W.kitAny K (.type "tuple") [.type "str"] = some false)
def q163 (K : PySem.W.Frag) : Bool := decide (PySem.W.kitAny K (.type "list") [.type "str"] = some false)
def q164 (K : PySem.W.Frag) : Bool := decide (PySem.W.kitAny K (.ref (He.ga K "Ratio")) [.type "str"] = some false)
def q165 (K : PySem.W.Frag) : Bool := decide (PySem.W.kitAny K (.type "NoneType") [.type "tuple"] = some false)
def q166 (K : PySem.W.Frag) : Bool := decide (PySem.W.kitAny K (.type "bool") [.type "tuple"] = some false)
def q167 (K : PySem.W.Frag) : Bool := decide (PySem.W.kitAny K (.type "int") [.type "tuple"] = some false)
def q168 (K : PySem.W.Frag) : Bool := decide (PySem.W.kitAny K (.type "str") [.type "tuple"] = some false)
def q169 (K : PySem.W.Frag) : Bool := decide (PySem.W.kitAny K (.type "tuple") [.type "tuple"] = some true)
def q170 (K : PySem.W.Frag) : Bool := decide (PySem.W.kitAny K (.type "list") [.type "tuple"] = some false)
def q171 (K : PySem.W.Frag) : Bool := decide (PySem.W.kitAny K (.type "NoneType") [.type "tuple"] = some false)
def q172 (K : PySem.W.Frag) : Bool := decide (PySem.W.kitAny K (.type "bool") [.type "tuple"] = some false)
def q173 (K : PySem.W.Frag) : Bool := decide (PySem.W.kitAny K (.type "int") [.type "tuple"] = some false)
def q174 (K : PySem.W.Frag) : Bool := decide (PySem.W.kitAny K (.type "str") [.type "tuple"] = some false)
def q175 (K : PySem.W.Frag) : Bool := decide (PySem.W.kitAny K (.type "tuple") [.type "tuple"] = some true)
def q176 (K : PySem.W.Frag) : Bool := decide (PySem.W.kitAny K (.type "list") [.type "tuple"] = some false)
def q177 (K : PySem.W.Frag) : Bool := decide (PySem.W.kitAny K (.ref (He.ga K "Ratio")) [.type "tuple"] = some false)
def q178 (K : PySem.W.Frag) : Bool := decide ((He.ga K "CycleError") ≠ (He.ga K "InvalidRatio"))
def q179 (K : PySem.W.Frag) : Bool := decide ((He.ga K "CycleError") ≠ (He.ga K "Missing"))
def q180 (K : PySem.W.Frag) : Bool := decide ((He.ga K "InvalidRatio") ≠ (He.ga K "Missing"))
def q181 (K : PySem.W.Frag) : Bool := decide ((He.ga K "CycleError") ≠ (He.ga K "NothingLeft"))
def q182 (K : PySem.W.Frag) : Bool := decide ((He.ga K "InvalidRatio") ≠ (He.ga K "NothingLeft"))
def q183 (K : PySem.W.Frag) : Bool := decide ((He.ga K "Missing") ≠ (He.ga K "NothingLeft"))
def q184 (K : PySem.W.Frag) : Bool := decide ((He.ga K "CycleError") ≠ (He.ga K "Ratio"))
def q185 (K : PySem.W.Frag) : Bool := decide ((He.ga K "InvalidRatio") ≠ (He.ga K "Ratio"))
def q186 (K : PySem.W.Frag) : Bool := decide ((He.ga K "Missing") ≠ (He.ga K "Ratio"))
def q187 (K : PySem.W.Frag) : Bool := decide ((He.ga K "NothingLeft") ≠ (He.ga K "Ratio"))
def fs0 : List (PySem.W.Frag → Bool) := [q0, q1, q2, q3, q4, q5, q6, q7, q8, q9, q10, q11, q12, q13, q14, q15, q16, q17, q18, q19, q20, q21, q22, q23, q24, q25, q26, q27, q28, q29]
def fs1 : List (PySem.W.Frag → Bool) := [q30, q31, q32, q33, q34, q35, q36, q37, q38, q39, q40, q41, q42, q43, q44, q45, q46, q47, q48, q49, q50, q51, q52, q53, q54, q55, q56, q57, q58, q59]
def fs2 : List (PySem.W.Frag → Bool) := [q60, q61, q62, q63, q64, q65, q66, q67, q68, q69, q70, q71, q72, q73, q74, q75, q76, q77, q78, q79, q80, q81, q82, q83, q84, q85, q86, q87, q88, q89]
def fs3 : List (PySem.W.Frag → Bool) := [q90, q91, q92, q93, q94, q95, q96, q97, q98, q99, q100, q101, q102, q103, q104, q105, q106, q107, q108, q109, q110, q111, q112, q113, q114, q115, q116, q117, q118, q119]
def fs4 : List (PySem.W.Frag → Bool) := [q120, q121, q122, q123, q124, q125, q126, q127, q128, q129, q130, q131, q132, q133, q134, q135, q136, q137, q138, q139, q140, q141, q142, q143, q144, q145, q146, q147, q148, q149]
def fs5 : List (PySem.W.Frag → Bool) := [q150, q151, q152, q153, q154, q155, q156, q157, q158, q159, q160, q161, q162, q163, q164, q165, q166, q167, q168, q169, q170, q171, q172, q173, q174, q175, q176, q177, q178, q179]
def fs6 : List (PySem.W.Frag → Bool) := [q180, q181, q182, q183, q184, q185, q186, q187]
def fs : List (PySem.W.Frag → Bool) := fs0 ++ (fs1 ++ (fs2 ++ (fs3 ++ (fs4 ++ (fs5 ++ (fs6))))))
def ds0 : List DefK := [dk0, dk1, dk2, dk3, dk4, dk5, dk6, dk7, dk8, dk9, dk10, dk11, dk12, dk13, dk14, dk15, dk16, dk17, dk18, dk19, dk20, dk21]
def ds : List DefK := ds0
def loose0 : List Str := ["_wall", "CycleError", "Missing", "InvalidRatio", "NothingLeft", "is_whole", "LONGEST_TEXT", "FIGURES", "common_divisor", "whole_in", "Ratio", "_law_begin", "_law_take", "_law_one", "_law_like", "_law_field", "_law_try", "_law_divisor", "_law_frac", "_law_parts", "_law_word", "_law_any_frac", "_law_ratio_in"]
def loose : List Str := loose0
def ss : List DefS := [dS0, dS1]
def Q0 : Hd := ⟨fs, ds, ss, ["law"]⟩
abbrev R0 : PySem.W.OpenRow := PySem.W.OpenLaw.row PySem.Challenge.rw_bothgreen_k06_whole_texts_of_ratios
abbrev qv : Program := PySem.W.view R0.prog [27]
def ob (s : PySem.W.SharedT) : AlX := Q0.obsG 5 (HandSHeadRun.getT s)
theorem ob_eq (s : PySem.W.SharedT) : ob s = (Q0.hook 5).obs s.abs := Hd.obs_eq (HandSHeadRun.getT_eq s)
theorem run (w : World) : HandSHeadRun.RunEq R0 qv (Q0.hook 5) ob 40000 loose w := by
  intro os
  kernel_rfl
end W

namespace DL
open PySem PySem.Spec PyProof.Rows L2
structure LamT where
  qual : Str
  params : Arguments
  body : Expr
  scope : Scope
  ps : List Str
  dds : List Int
  free : List Str
class LamTab where
  tab : Nat → LamT
  tbls : PySem.W.Frag → List (Addr × Str)
variable [LamTab]
def pinO (b : Addr) (o : Obj) : HO := .ext fun h => h.get? b = some o
def XobAt (F : Hp) (C a : Addr) (vs : List (Str × V)) : Prop := ∃ (oe : Obj) (dx : Addr), F a = some (pinO a oe) ∧ oe.cls = .ref C ∧ oe.dict = some dx ∧ (∃ w, oe.data = .fields w) ∧ F dx = some (.xd vs)
def LamO (t : LamT) (g : List (Str × Addr)) (dV : Value) (c : Addr) (o : Obj) : Prop := ∃ (pm ctv : Value), o = { cls := .type "function", data := .func { name := "<lambda>", qualname := t.qual, params := t.params, body := .expr t.body, scope := t.scope, globals := mainGlobals, closure := g, defaults := dV, kwdefaults := .none, doc := .none, pyModule := pm, annotations := none, code := .ref c, closureTuple := ctv, builtins := builtinsNs } }
def LamD (F : Hp) (t : LamT) (dV : Value) : Prop := (t.dds = [] ∧ dV = .none) ∨ ∃ (T : Addr) (us : List Value), dV = .ref T ∧ F T = some (pinO T { cls := .type "tuple", data := .seq us.toArray }) ∧ Vals (t.dds.map V.int) us
def LamAt (F : Hp) (t : LamT) (g : List (Str × Addr)) (a : Addr) : Prop := ∃ (o : Obj) (dV : Value) (c : Addr), F a = some (pinO a o) ∧ LamO t g dV c o ∧ LamD F t dV ∧ F c = some (LamX.CodeO c t.qual) ∧ (∀ y z c, g.lookup y = some c → g.lookup z = some c → y = z) ∧ (∀ y ∈ t.scope.names, y.2 = .free → ∃ c, g.lookup y.1 = some c) ∧ ∀ y c, g.lookup y = some c → y ∈ t.free
def CelAt (F : Hp) (names : List Str) (g : List (Str × Addr)) (vs : List V) : Prop := ∀ (i : Nat) (y : Str) (v : V), names[i]? = some y → vs[i]? = some v → ∃ (c : Addr) (oc : Obj) (u : Value), g.lookup y = some c ∧ F c = some (pinO c oc) ∧ oc.data = .cell (some u) ∧ RelV v u
structure Kl where
  a : Addr
  ns : List Str
  deriving DecidableEq
inductive D where
  | non | bl (b : Bool) | int (i : Int) | str (x : Str)
  | tup (ds : List D) | lst (ds : List D)
  | obj (c : Kl) (ds : List D)
  | loc (n : Nat)
  | val (v : V)
  | xob (c : Kl) (ds : List D)
  | lam (k : Nat) (g : List (Str × Addr))
  | clo (k : Nat) (ds : List D)
mutual
inductive Rep (K : PySem.W.Frag) (ι : List Addr) (F : Hp) : D → V → Prop
  | non : Rep K ι F .non .non
  | bl (b : Bool) : Rep K ι F (.bl b) (.bl b)
  | int (i : Int) : Rep K ι F (.int i) (.int i)
  | str (x : Str) : Rep K ι F (.str x) (.str x)
  | tup {ds : List D} {a : Addr} {xs : List V} : SqT K F a xs → Reps K ι F ds xs → Rep K ι F (.tup ds) (.ref a)
  | lst {ds : List D} {a : Addr} {xs : List V} : SqL K F a xs → Reps K ι F ds xs → Rep K ι F (.lst ds) (.ref a)
  | obj {c : Kl} {ds : List D} {a dx : Addr} {vs : List (Str × V)} : F a = some (.ins c.a dx vs) → vs.map (·.1) = c.ns → Reps K ι F ds (vs.map (·.2)) → Rep K ι F (.obj c ds) (.ref a)
  | loc {n : Nat} {a : Addr} : ι[n]? = some a → Rep K ι F (.loc n) (.ref a)
  | val (v : V) : Rep K ι F (.val v) v
  | xob {c : Kl} {ds : List D} {a : Addr} {vs : List (Str × V)} : XobAt F c.a a vs → vs.map (·.1) = c.ns → Reps K ι F ds (vs.map (·.2)) → Rep K ι F (.xob c ds) (.ref a)
  | lam {k : Nat} {g : List (Str × Addr)} {a : Addr} : LamAt F (LamTab.tab k) g a → Rep K ι F (.lam k g) (.ref a)
  | clo {k : Nat} {ds : List D} {g : List (Str × Addr)} {a : Addr} {vs : List V} : LamAt F (LamTab.tab k) g a → CelAt F (LamTab.tab k).free g vs → Reps K ι F ds vs → Rep K ι F (.clo k ds) (.ref a)
inductive Reps (K : PySem.W.Frag) (ι : List Addr) (F : Hp) : List D → List V → Prop
  | nil : Reps K ι F [] []
  | cons {d : D} {v : V} {ds : List D} {vs : List V} : Rep K ι F d v → Reps K ι F ds vs → Reps K ι F (d :: ds) (v :: vs)
inductive RepF (K : PySem.W.Frag) (ι : List Addr) (F : Hp) : List (Str × D) → List (Str × V) → Prop
  | nil : RepF K ι F [] []
  | cons {f : Str} {d : D} {v : V} {fs : List (Str × D)} {vs : List (Str × V)} : Rep K ι F d v → RepF K ι F fs vs → RepF K ι F ((f, d) :: fs) ((f, v) :: vs)
end
def Ext (H H' : Hp) : Prop := ∀ a o, H a = some o → H' a = some o
theorem Ext.refl (H : Hp) : Ext H H := fun _ _ h => h
theorem Ext.trans {H H1 H2 : Hp} (a : Ext H H1) (b : Ext H1 H2) : Ext H H2 := fun c o h => b c o (a c o h)
theorem SqL.ext' {K : PySem.W.Frag} {H H' : Hp} {a : Addr} {xs : List V} (h : SqL K H a xs) (e : Ext H H') : SqL K H' a xs := by
  rcases h with (h | ⟨o, h⟩) | h
  · exact .inl (.inl (e _ _ h))
  · exact .inl (.inr ⟨o, e _ _ h⟩)
  · exact .inr h
theorem SqT.ext' {K : PySem.W.Frag} {H H' : Hp} {a : Addr} {xs : List V} (h : SqT K H a xs) (e : Ext H H') : SqT K H' a xs := by
  rcases h with (h | ⟨o, h⟩) | h
  · exact .inl (.inl (e _ _ h))
  · exact .inl (.inr ⟨o, e _ _ h⟩)
  · exact .inr h
theorem XobAt.ext {F F' : Hp} {C a : Addr} {vs : List (Str × V)} (h : XobAt F C a vs) (e : Ext F F') : XobAt F' C a vs := by
  obtain ⟨oe, dx, h1, h2, h3, h4, h5⟩ := h
  exact ⟨oe, dx, e _ _ h1, h2, h3, h4, e _ _ h5⟩
theorem LamAt.ext {F F' : Hp} {t : LamT} {g : List (Str × Addr)} {a : Addr} (h : LamAt F t g a) (e : Ext F F') : LamAt F' t g a := by
  obtain ⟨o, dV, c, h1, h2, h3, h4, h5⟩ := h
  refine ⟨o, dV, c, e _ _ h1, h2, ?_, e _ _ h4, h5⟩
  rcases h3 with h3 | ⟨T, us, k1, k2, k3⟩
  · exact .inl h3
  · exact .inr ⟨T, us, k1, e _ _ k2, k3⟩
theorem CelAt.ext {F F' : Hp} {names : List Str} {g : List (Str × Addr)} {vs : List V} (h : CelAt F names g vs) (e : Ext F F') : CelAt F' names g vs := fun i y v h1 h2 =>
  let ⟨c, oc, u, k1, k2, k3⟩ := h i y v h1 h2
  ⟨c, oc, u, k1, e _ _ k2, k3⟩
section
variable {K : PySem.W.Frag} {ι ι' : List Addr} {F F' : Hp}
theorem pre_get {ι ι' : List Addr} (hp : ι <+: ι') {n : Nat} {a : Addr} (h : ι[n]? = some a) : ι'[n]? = some a := by
  obtain ⟨t, rfl⟩ := hp
  rw [List.getElem?_append_left (List.getElem?_eq_some_iff.mp h).1]
  exact h
mutual
theorem Rep.mono (hp : ι <+: ι') (e : Ext F F') : ∀ {d : D} {v : V}, Rep K ι F d v → Rep K ι' F' d v
  | _, _, .non => .non
  | _, _, .bl b => .bl b
  | _, _, .int i => .int i
  | _, _, .str x => .str x
  | _, _, .tup h r => .tup (SqT.ext' h e) (Reps.mono hp e r)
  | _, _, .lst h r => .lst (SqL.ext' h e) (Reps.mono hp e r)
  | _, _, .obj h n r => .obj (e _ _ h) n (Reps.mono hp e r)
  | _, _, .loc h => .loc (pre_get hp h)
  | _, _, .val v => .val v
  | _, _, .xob h n r => .xob (h.ext e) n (Reps.mono hp e r)
  | _, _, .lam h => .lam (h.ext e)
  | _, _, .clo h h2 r => .clo (h.ext e) (h2.ext e) (Reps.mono hp e r)
theorem Reps.mono (hp : ι <+: ι') (e : Ext F F') : ∀ {ds : List D} {vs : List V}, Reps K ι F ds vs → Reps K ι' F' ds vs
  | _, _, .nil => .nil
  | _, _, .cons h r => .cons (Rep.mono hp e h) (Reps.mono hp e r)
theorem RepF.mono (hp : ι <+: ι') (e : Ext F F') : ∀ {ds : List (Str × D)} {vs : List (Str × V)}, RepF K ι F ds vs → RepF K ι' F' ds vs
  | _, _, .nil => .nil
  | _, _, .cons h r => .cons (Rep.mono hp e h) (RepF.mono hp e r)
end
theorem Reps.len : ∀ {ds : List D} {vs : List V}, Reps K ι F ds vs → ds.length = vs.length
  | _, _, .nil => rfl
  | _, _, .cons _ r => congrArg Nat.succ (Reps.len r)
theorem Reps.get : ∀ {ds : List D} {vs : List V} {i : Nat} {d : D}, Reps K ι F ds vs → ds[i]? = some d → ∃ v, vs[i]? = some v ∧ Rep K ι F d v
  | _, _, _, _, .nil, e => by simp at e
  | _, _, 0, _, .cons h r, e => by simp at e; subst e; exact ⟨_, rfl, h⟩
  | _, _, i + 1, d, .cons h r, e => by
    obtain ⟨v, h1, h2⟩ := Reps.get (i := i) (d := d) r (by simpa using e)
    exact ⟨v, by simpa using h1, h2⟩
theorem Reps.append : ∀ {ds es : List D} {vs us : List V}, Reps K ι F ds vs → Reps K ι F es us → Reps K ι F (ds ++ es) (vs ++ us)
  | _, _, _, _, .nil, s => s
  | _, _, _, _, .cons h r, s => .cons h (Reps.append r s)
theorem Reps.take : ∀ {ds : List D} {vs : List V} (n : Nat), Reps K ι F ds vs → Reps K ι F (ds.take n) (vs.take n)
  | _, _, 0, _ => .nil
  | _, _, _ + 1, .nil => .nil
  | _, _, n + 1, .cons h r => .cons h (Reps.take n r)
theorem Reps.drop : ∀ {ds : List D} {vs : List V} (n : Nat), Reps K ι F ds vs → Reps K ι F (ds.drop n) (vs.drop n)
  | _, _, 0, r => r
  | _, _, _ + 1, .nil => .nil
  | _, _, n + 1, .cons _ r => Reps.drop n r
theorem Reps.set {d : D} {v : V} (h : Rep K ι F d v) : ∀ {ds : List D} {vs : List V} (i : Nat), Reps K ι F ds vs → Reps K ι F (ds.set i d) (vs.set i v)
  | _, _, _, .nil => .nil
  | _, _, 0, .cons _ r => .cons h r
  | _, _, i + 1, .cons q r => .cons q (Reps.set h i r)
theorem RepF.get : ∀ {fs : List (Str × D)} {vs : List (Str × V)} {f : Str} {d : D}, RepF K ι F fs vs → fs.lookup f = some d → ∃ v, vs.lookup f = some v ∧ Rep K ι F d v
  | _, _, _, _, .nil, e => by simp at e
  | _, _, f, d, .cons (f := g) h r, e => by
    rw [List.lookup_cons] at e ⊢
    cases hb : f == g with
    | true => rw [hb] at e; cases e; exact ⟨_, rfl, h⟩
    | false => rw [hb] at e; exact RepF.get r e
theorem RepF.none : ∀ {fs : List (Str × D)} {vs : List (Str × V)} {f : Str}, RepF K ι F fs vs → fs.lookup f = .none → vs.lookup f = .none
  | _, _, _, .nil, e => rfl
  | _, _, f, .cons (f := g) h r, e => by
    rw [List.lookup_cons] at e ⊢
    cases hb : f == g with
    | true => rw [hb] at e; cases e
    | false => rw [hb] at e; exact RepF.none r e
theorem RepF.len : ∀ {fs : List (Str × D)} {vs : List (Str × V)}, RepF K ι F fs vs → fs.length = vs.length
  | _, _, .nil => rfl
  | _, _, .cons _ r => congrArg Nat.succ (RepF.len r)
def putD (f : Str) (d : D) : List (Str × D) → List (Str × D)
  | [] => [(f, d)]
  | (g, e) :: r => if g = f then (g, d) :: r else (g, e) :: putD f d r
end
end DL

namespace DL
open PySem PySem.Spec PyProof.Rows L2
variable [LamTab]
inductive Mo where
  | lst (ds : List D)
  | ins (C : Addr) (fs : List (Str × D))
  | exo (C : Addr) (d : Option Nat)
  | exd (fs : List (Str × D))
  | dik (kvs : List (Key × D))
  | dit (kvs : List (List Key × D))
abbrev Mu := List Mo
abbrev En := List (Option D)
structure Wd where
  i : List Addr
  F : Hp
  H : Hp
def MoOk (K : PySem.W.Frag) (S : Wd) (a : Addr) : Mo → Prop
  | .lst ds => ∃ xs, S.H a = some (.lst xs) ∧ Reps K S.i S.F ds xs
  | .ins C fs => ∃ dx vs, S.H a = some (.ins C dx vs) ∧ RepF K S.i S.F fs vs
  | .exo C none => S.H a = some (exo a C none)
  | .exo C (some k) => ∃ dx, S.i[k]? = some dx ∧ S.H a = some (exo a C (some dx))
  | .exd fs => ∃ vs, S.H a = some (exd a vs) ∧ RepF K S.i S.F fs vs
  | .dik kvs => ∃ vs : List (Key × V), S.H a = some (.dK vs) ∧ kvs.map (·.1) = vs.map (·.1) ∧ Reps K S.i S.F (kvs.map (·.2)) (vs.map (·.2))
  | .dit kvs => ∃ vs : List (List Key × V), S.H a = some (.dT vs) ∧ kvs.map (·.1) = vs.map (·.1) ∧ Reps K S.i S.F (kvs.map (·.2)) (vs.map (·.2))
def TbOk (K : PySem.W.Frag) (S : Wd) : Prop := ∀ p ∈ LamTab.tbls K, ∃ ps : Array Value, S.H p.1 = some (.tbl ps) ∧ S.F p.1 = none ∧ p.1 ∉ S.i ∧ TriplesOk ps.toList ∧ ∀ (pos : Pos) (cv : Value), codeAmong pos ps.toList = some cv → ∃ c, cv = .ref c ∧ S.F c = some (LamX.CodeO c p.2)
structure Sta (K : PySem.W.Frag) (S : Wd) (m : Mu) : Prop where
  nd : S.i.Nodup
  len : S.i.length = m.length
  sub : Ext S.F S.H
  dis : ∀ a ∈ S.i, S.F a = none
  tr : ∀ a ∈ S.i, ∃ o, S.H a = some o
  ok : ∀ (n : Nat) a o, S.i[n]? = some a → m[n]? = some o → MoOk K S a o
  tb : TbOk K S
structure Stp (S T : Wd) : Prop where
  pre : S.i <+: T.i
  ext : Ext S.F T.F
  frame : ∀ a o, (∀ ps, o ≠ .tbl ps) → S.H a = some o → S.F a = none → a ∉ S.i → T.H a = some o ∧ T.F a = none ∧ a ∉ T.i
  old : ∀ a, T.H a = none → S.H a = none
theorem upd_none {H : Hp} {p a : Addr} {o : HO} (h : upd H p o a = none) : H a = none := by
  by_cases e : a = p
  · subst e; rw [upd_same] at h; cases h
  · rw [upd_ne e] at h; exact h
theorem Stp.refl (S : Wd) : Stp S S := ⟨List.prefix_refl _, Ext.refl _, fun _ _ _ h1 h2 h3 => ⟨h1, h2, h3⟩, fun _ h => h⟩
theorem Stp.trans {S T U : Wd} (a : Stp S T) (b : Stp T U) : Stp S U := ⟨a.pre.trans b.pre, a.ext.trans b.ext, fun c o hn h1 h2 h3 =>
  let ⟨k1, k2, k3⟩ := a.frame c o hn h1 h2 h3
  b.frame c o hn k1 k2 k3, fun c h => a.old c (b.old c h)⟩
theorem Rep.stp {K : PySem.W.Frag} {S T : Wd} (s : Stp S T) {d : D} {v : V} (r : Rep K S.i S.F d v) : Rep K T.i T.F d v := r.mono s.pre s.ext
theorem Reps.stp {K : PySem.W.Frag} {S T : Wd} (s : Stp S T) {d : List D} {v : List V} (r : Reps K S.i S.F d v) : Reps K T.i T.F d v := r.mono s.pre s.ext
theorem RepF.stp {K : PySem.W.Frag} {S T : Wd} (s : Stp S T) {d : List (Str × D)} {v : List (Str × V)} (r : RepF K S.i S.F d v) : RepF K T.i T.F d v := r.mono s.pre s.ext
theorem Sta.fresh {K : PySem.W.Frag} {S : Wd} {m : Mu} (sa : Sta K S m) {p : Addr} (h : S.H p = none) : S.F p = none ∧ p ∉ S.i := by
  constructor
  · cases q : S.F p with
    | none => rfl
    | some o => rw [sa.sub p o q] at h; cases h
  · intro hp
    obtain ⟨o, e⟩ := sa.tr p hp
    rw [h] at e; cases e
def Wd.new (S : Wd) (p : Addr) (o : HO) : Wd := ⟨S.i, upd S.F p o, upd S.H p o⟩
theorem Ext.updNew {H : Hp} {p : Addr} {o : HO} (h : H p = none) : Ext H (upd H p o) := fun a u e => by rw [upd_ne (ne_of_none e h)]; exact e
theorem Stp.new {K : PySem.W.Frag} {S : Wd} {m : Mu} (sa : Sta K S m) {p : Addr} {o : HO} (h : S.H p = none) : Stp S (S.new p o) := by
  refine ⟨List.prefix_refl _, Ext.updNew (sa.fresh h).1, fun a u _ h1 h2 h3 => ?_, fun a z => upd_none z⟩
  have ne : a ≠ p := ne_of_none h1 h
  exact ⟨by show upd S.H p o a = _; rw [upd_ne ne]; exact h1, by show upd S.F p o a = _; rw [upd_ne ne]; exact h2, h3⟩
theorem MoOk.stp {K : PySem.W.Frag} {S T : Wd} (s : Stp S T) {a : Addr} {o : Mo} (h : MoOk K S a o) (e : T.H a = S.H a) : MoOk K T a o := by
  cases o with
  | lst ds => obtain ⟨xs, h1, h2⟩ := h; exact ⟨xs, by rw [e]; exact h1, h2.stp s⟩
  | ins C fs => obtain ⟨dx, vs, h1, h2⟩ := h; exact ⟨dx, vs, by rw [e]; exact h1, h2.stp s⟩
  | exo C d =>
    cases d with
    | none => exact (show T.H a = _ from e.trans h)
    | some k => obtain ⟨dx, h1, h2⟩ := h; exact ⟨dx, pre_get s.pre h1, by rw [e]; exact h2⟩
  | exd fs => obtain ⟨vs, h1, h2⟩ := h; exact ⟨vs, by rw [e]; exact h1, h2.stp s⟩
  | dik kvs => obtain ⟨vs, h1, h0, h2⟩ := h; exact ⟨vs, by rw [e]; exact h1, h0, h2.stp s⟩
  | dit kvs => obtain ⟨vs, h1, h0, h2⟩ := h; exact ⟨vs, by rw [e]; exact h1, h0, h2.stp s⟩
theorem Sta.new {K : PySem.W.Frag} {S : Wd} {m : Mu} (sa : Sta K S m) {p : Addr} {o : HO} (h : S.H p = none) : Sta K (S.new p o) m := by
  have st := Stp.new sa (o := o) h
  have f := sa.fresh h
  refine ⟨sa.nd, sa.len, fun a u e => ?_, fun a ha => ?_, fun a ha => ?_, fun n a q h1 h2 => ?_, fun q hq => ?tb⟩
  case tb =>
    obtain ⟨ps, t1, t2, t3, t4, t5⟩ := sa.tb q hq
    have ne : q.1 ≠ p := ne_of_none t1 h
    exact ⟨ps, by show upd S.H p o q.1 = _; rw [upd_ne ne]; exact t1, by show upd S.F p o q.1 = _; rw [upd_ne ne]; exact t2, t3, t4, fun pos cv hc => let ⟨c, c1, c2⟩ := t5 pos cv hc; ⟨c, c1, st.ext _ _ c2⟩⟩
  · show upd S.H p o a = some u
    have e : upd S.F p o a = some u := e
    by_cases hp : a = p
    · subst hp; rw [upd_same] at e ⊢; exact e
    · rw [upd_ne hp] at e ⊢; exact sa.sub a u e
  · have ne : a ≠ p := fun z => f.2 (z ▸ ha)
    show upd S.F p o a = none
    rw [upd_ne ne]; exact sa.dis a ha
  · have ne : a ≠ p := fun z => f.2 (z ▸ ha)
    obtain ⟨u, e⟩ := sa.tr a ha
    exact ⟨u, by show upd S.H p o a = _; rw [upd_ne ne]; exact e⟩
  · have ne : a ≠ p := fun z => f.2 (z ▸ List.mem_of_getElem? h1)
    exact (sa.ok n a q h1 h2).stp st (upd_ne ne)
def Wd.tok (S : Wd) (p : Addr) (o : HO) : Wd := ⟨S.i ++ [p], S.F, upd S.H p o⟩
theorem Stp.tok {K : PySem.W.Frag} {S : Wd} {m : Mu} (sa : Sta K S m) {p : Addr} {o : HO} (h : S.H p = none) : Stp S (S.tok p o) := by
  refine ⟨List.prefix_append _ _, Ext.refl _, fun a u _ h1 h2 h3 => ?_, fun a z => upd_none z⟩
  have ne : a ≠ p := ne_of_none h1 h
  exact ⟨by show upd S.H p o a = _; rw [upd_ne ne]; exact h1, h2, by
    intro z
    rcases List.mem_append.mp z with z | z
    · exact h3 z
    · exact ne (List.mem_singleton.mp z)⟩
theorem Sta.tok {K : PySem.W.Frag} {S : Wd} {m : Mu} (sa : Sta K S m) {p : Addr} {o : HO} (h : S.H p = none) {q : Mo} (hq : MoOk K (S.tok p o) p q) : Sta K (S.tok p o) (m ++ [q]) := by
  have st := Stp.tok sa (o := o) h
  have f := sa.fresh h
  refine ⟨?_, by show (S.i ++ [p]).length = _; simp [sa.len], fun a u e => ?_, fun a ha => ?_, fun a ha => ?_, fun n a u h1 h2 => ?_, fun q hq => ?tb⟩
  case tb =>
    obtain ⟨ps, t1, t2, t3, t4, t5⟩ := sa.tb q hq
    have ne : q.1 ≠ p := ne_of_none t1 h
    exact ⟨ps, by show upd S.H p o q.1 = _; rw [upd_ne ne]; exact t1, t2, by show q.1 ∉ S.i ++ [p]; simp [t3, ne], t4, t5⟩
  · show (S.i ++ [p]).Nodup
    refine List.nodup_append.mpr ⟨sa.nd, by simp, fun a ha b hb => ?_⟩
    have : b = p := List.mem_singleton.mp hb
    subst this
    exact fun z => f.2 (z ▸ ha)
  · have ne : a ≠ p := fun z => by
      have e : S.F a = some u := e
      rw [z, f.1] at e; cases e
    show upd S.H p o a = some u
    rw [upd_ne ne]; exact sa.sub a u e
  · rcases List.mem_append.mp (show a ∈ S.i ++ [p] from ha) with z | z
    · exact sa.dis a z
    · have : a = p := List.mem_singleton.mp z
      subst this; exact f.1
  · show ∃ u, upd S.H p o a = some u
    by_cases hp : a = p
    · subst hp; exact ⟨o, upd_same⟩
    · rcases List.mem_append.mp (show a ∈ S.i ++ [p] from ha) with z | z
      · rw [upd_ne hp]; exact sa.tr a z
      · exact absurd (List.mem_singleton.mp z) hp
  · have h1 : (S.i ++ [p])[n]? = some a := h1
    by_cases hn : n < S.i.length
    · rw [List.getElem?_append_left hn] at h1
      rw [List.getElem?_append_left (by rw [← sa.len]; exact hn)] at h2
      have ne : a ≠ p := fun z => f.2 (z ▸ List.mem_of_getElem? h1)
      exact (sa.ok n a u h1 h2).stp st (upd_ne ne)
    · have hn' : n = S.i.length := by
        have := (List.getElem?_eq_some_iff.mp h1).1
        simp at this; omega
      subst hn'
      rw [List.getElem?_append_right (Nat.le_refl _), Nat.sub_self] at h1
      rw [sa.len, List.getElem?_append_right (Nat.le_refl _), Nat.sub_self] at h2
      simp at h1 h2
      subst h1; subst h2
      exact hq
def Wd.put (S : Wd) (p : Addr) (o : HO) : Wd := ⟨S.i, S.F, upd S.H p o⟩
theorem Sta.put {K : PySem.W.Frag} {S : Wd} {m : Mu} (sa : Sta K S m) {p : Addr} {o : HO} {n : Nat} (h : S.i[n]? = some p) {q : Mo} (hq : MoOk K (S.put p o) p q) : Stp S (S.put p o) ∧ Sta K (S.put p o) (m.set n q) := by
  have hp := List.mem_of_getElem? h
  have st : Stp S (S.put p o) := ⟨List.prefix_refl _, Ext.refl _, fun a u _ h1 h2 h3 => ⟨by
    have ne : a ≠ p := fun z => h3 (z ▸ hp)
    show upd S.H p o a = _; rw [upd_ne ne]; exact h1, h2, h3⟩, fun a z => upd_none z⟩
  refine ⟨st, sa.nd, by show S.i.length = _; simp [sa.len], fun a u e => ?_, sa.dis, fun a ha => ?_, fun k a u h1 h2 => ?_, fun q hq => ?tb⟩
  case tb =>
    obtain ⟨ps, t1, t2, t3, t4, t5⟩ := sa.tb q hq
    have ne : q.1 ≠ p := fun z => t3 (z ▸ hp)
    exact ⟨ps, by show upd S.H p o q.1 = _; rw [upd_ne ne]; exact t1, t2, t3, t4, t5⟩
  · have ne : a ≠ p := fun z => by
      have e : S.F a = some u := e
      rw [z, sa.dis p hp] at e; cases e
    show upd S.H p o a = some u
    rw [upd_ne ne]; exact sa.sub a u e
  · show ∃ u, upd S.H p o a = some u
    by_cases hp : a = p
    · subst hp; exact ⟨o, upd_same⟩
    · rw [upd_ne hp]; exact sa.tr a ha
  · have h1 : S.i[k]? = some a := h1
    by_cases hk : k = n
    · subst hk
      rw [h] at h1; cases h1
      have hl : k < m.length := by rw [← sa.len]; exact (List.getElem?_eq_some_iff.mp h).1
      rw [List.getElem?_set_self hl] at h2; cases h2
      exact hq
    · rw [List.getElem?_set_ne (Ne.symm hk)] at h2
      have ne : a ≠ p := fun z => by
        subst z
        obtain ⟨l1, e1⟩ := List.getElem?_eq_some_iff.mp h1
        obtain ⟨l2, e2⟩ := List.getElem?_eq_some_iff.mp h
        exact hk ((List.getElem_inj sa.nd).mp (e1.trans e2.symm))
      exact (sa.ok k a u h1 h2).stp st (upd_ne ne)
theorem Sta.hid {K : PySem.W.Frag} {S : Wd} {m : Mu} (sa : Sta K S m) {p : Addr} {o : HO} (h1 : S.F p = none) (h2 : p ∉ S.i) (h3 : ∀ ps, S.H p ≠ some (.tbl ps)) : Sta K (S.put p o) m := by
  refine ⟨sa.nd, sa.len, fun a u e => ?_, sa.dis, fun a ha => ?_, fun k a u e1 e2 => ?_, fun q hq => ?tb⟩
  case tb =>
    obtain ⟨ps, t1, t2, t3, t4, t5⟩ := sa.tb q hq
    have ne : q.1 ≠ p := fun z => h3 ps (z ▸ t1)
    exact ⟨ps, by show upd S.H p o q.1 = _; rw [upd_ne ne]; exact t1, t2, t3, t4, t5⟩
  · have ne : a ≠ p := fun z => by
      have e : S.F a = some u := e
      rw [z, h1] at e; cases e
    show upd S.H p o a = some u
    rw [upd_ne ne]; exact sa.sub a u e
  · have ne : a ≠ p := fun z => h2 (z ▸ ha)
    show ∃ u, upd S.H p o a = some u
    rw [upd_ne ne]; exact sa.tr a ha
  · have ne : a ≠ p := fun z => h2 (z ▸ List.mem_of_getElem? e1)
    have q := sa.ok k a u e1 e2
    cases u with
    | lst ds => obtain ⟨xs, q1, q2⟩ := q; exact ⟨xs, by show upd S.H p o a = _; rw [upd_ne ne]; exact q1, q2⟩
    | ins C fs => obtain ⟨dx, vs, q1, q2⟩ := q; exact ⟨dx, vs, by show upd S.H p o a = _; rw [upd_ne ne]; exact q1, q2⟩
    | exo C d =>
      cases d with
      | none => exact (show upd S.H p o a = _ from (upd_ne ne).trans q)
      | some k => obtain ⟨dx, q1, q2⟩ := q; exact ⟨dx, q1, (show upd S.H p o a = _ from (upd_ne ne).trans q2)⟩
    | exd fs => obtain ⟨vs, q1, q2⟩ := q; exact ⟨vs, by show upd S.H p o a = _; rw [upd_ne ne]; exact q1, q2⟩
    | dik kvs => obtain ⟨vs, q1, q0, q2⟩ := q; exact ⟨vs, by show upd S.H p o a = _; rw [upd_ne ne]; exact q1, q0, q2⟩
    | dit kvs => obtain ⟨vs, q1, q0, q2⟩ := q; exact ⟨vs, by show upd S.H p o a = _; rw [upd_ne ne]; exact q1, q0, q2⟩
def Wd.keep (S : Wd) (p : Addr) (o : HO) : Wd := ⟨S.i, upd S.F p o, S.H⟩
theorem Sta.keep {K : PySem.W.Frag} {S : Wd} {m : Mu} (sa : Sta K S m) {p : Addr} {o : HO} (h0 : S.H p = some o) (h1 : S.F p = none) (h2 : p ∉ S.i) (h3 : ∀ ps, o ≠ .tbl ps) : Sta K (S.keep p o) m := by
  have ex : Ext S.F (upd S.F p o) := Ext.updNew h1
  refine ⟨sa.nd, sa.len, fun a u e => ?_, fun a ha => ?_, sa.tr, fun k a u e1 e2 => ?_, fun q hq => ?tb⟩
  case tb =>
    obtain ⟨ps, t1, t2, t3, t4, t5⟩ := sa.tb q hq
    have ne : q.1 ≠ p := fun z => h3 ps (Option.some.inj (h0.symm.trans (z ▸ t1)))
    exact ⟨ps, t1, by show upd S.F p o q.1 = _; rw [upd_ne ne]; exact t2, t3, t4, fun pos cv hc => let ⟨c, c1, c2⟩ := t5 pos cv hc; ⟨c, c1, ex _ _ c2⟩⟩
  · have e : upd S.F p o a = some u := e
    by_cases hp : a = p
    · subst hp; rw [upd_same] at e; cases e; exact h0
    · rw [upd_ne hp] at e; exact sa.sub a u e
  · have ne : a ≠ p := fun z => h2 (z ▸ ha)
    show upd S.F p o a = none
    rw [upd_ne ne]; exact sa.dis a ha
  · have q := sa.ok k a u e1 e2
    cases u with
    | lst ds => obtain ⟨xs, q1, q2⟩ := q; exact ⟨xs, q1, q2.mono (List.prefix_refl _) ex⟩
    | ins C fs => obtain ⟨dx, vs, q1, q2⟩ := q; exact ⟨dx, vs, q1, q2.mono (List.prefix_refl _) ex⟩
    | exo C d =>
      cases d with
      | none => exact q
      | some k => exact q
    | exd fs => obtain ⟨vs, q1, q2⟩ := q; exact ⟨vs, q1, q2.mono (List.prefix_refl _) ex⟩
    | dik kvs => obtain ⟨vs, q1, q0, q2⟩ := q; exact ⟨vs, q1, q0, q2.mono (List.prefix_refl _) ex⟩
    | dit kvs => obtain ⟨vs, q1, q0, q2⟩ := q; exact ⟨vs, q1, q0, q2.mono (List.prefix_refl _) ex⟩
inductive Res (α : Type) where
  | stuck
  | ok (a : α) (m : Mu)
  | exc (C : Addr) (fs : List (Str × D)) (m : Mu)
def Res.bind {α β : Type} (r : Res α) (f : α → Mu → Res β) : Res β := match r with
  | .stuck => .stuck
  | .ok a m => f a m
  | .exc C fs m => .exc C fs m
@[simp] theorem Res.bind_ok {α β : Type} (a : α) (m : Mu) (f : α → Mu → Res β) : (Res.ok a m).bind f = f a m := rfl
@[simp] theorem Res.bind_stuck {α β : Type} (f : α → Mu → Res β) : (Res.stuck : Res α).bind f = .stuck := rfl
@[simp] theorem Res.bind_exc {α β : Type} (C : Addr) (fs : List (Str × D)) (m : Mu) (f : α → Mu → Res β) : (Res.exc C fs m : Res α).bind f = .exc C fs m := rfl
section
variable {α β γ δ : Type} {K : PySem.W.Frag} {S T : Wd}
def Post (R : Wd → α → β → Prop) (K : PySem.W.Frag) (S : Wd) (r : Res α) (Q : β → Hp → Prop) (W : XK) : Prop := match r with
  | .stuck => False
  | .ok a m => ∀ v T, Stp S T → Sta K T m → R T a v → Q v T.H
  | .exc C fs m => ∀ dd vs T, Stp S T → S.H dd = none → Sta K T m → T.H dd = some (.xd vs) → RepF K T.i T.F fs vs → W (.ref C) (some dd) T.H
variable {R : Wd → α → β → Prop} {R' : Wd → γ → δ → Prop}
theorem Post.step {r : Res α} {Q : β → Hp → Prop} {W : XK} (s : Stp S T) (h : Post R K S r Q W) : Post R K T r Q W := by
  cases r with
  | stuck => exact h
  | ok a m => exact fun v U s1 => h v U (s.trans s1)
  | exc C fs m => exact fun dd vs U s1 hn => h dd vs U (s.trans s1) (s.old dd hn)
theorem Post.imp {r : Res α} {Q Q' : β → Hp → Prop} {W : XK} (h : Post R K S r Q W) (f : ∀ v H, Q v H → Q' v H) : Post R K S r Q' W := by
  cases r with
  | stuck => exact h
  | ok a m => exact fun v U s1 s2 s3 => f _ _ (h v U s1 s2 s3)
  | exc C fs m => exact h
theorem Post.bindI {r : Res α} {f : α → Mu → Res γ} {Q : δ → Hp → Prop} {Q' : β → Hp → Prop} {W : XK} (h : Post R' K S (r.bind f) Q W)
    (g : ∀ a m v T, Stp S T → Sta K T m → R T a v → Post R' K T (f a m) Q W → Q' v T.H) : Post R K S r Q' W := by
  cases r with
  | stuck => exact h
  | ok a m => exact fun v U s1 s2 s3 => g a m v U s1 s2 s3 (Post.step (r := f a m) s1 h)
  | exc C fs m => exact h
theorem Post.ok {a : α} {m : Mu} {Q : β → Hp → Prop} {W : XK} {v : β} (h : Post R K S (.ok a m) Q W) (s : Stp S T) (sa : Sta K T m) (r : R T a v) : Q v T.H := h v T s sa r
end
abbrev RD (K : PySem.W.Frag) : Wd → D → V → Prop := fun S d v => Rep K S.i S.F d v
abbrev RL (K : PySem.W.Frag) : Wd → List D → List V → Prop := fun S d v => Reps K S.i S.F d v
abbrev RB : Wd → Bool → Bool → Prop := fun _ a b => a = b
abbrev PostD (K : PySem.W.Frag) (S : Wd) (r : Res D) (Q : VK) (W : XK) : Prop := Post (RD K) K S r Q W
abbrev PostL (K : PySem.W.Frag) (S : Wd) (r : Res (List D)) (Q : List V → Hp → Prop) (W : XK) : Prop := Post (RL K) K S r Q W
abbrev PostB (K : PySem.W.Frag) (S : Wd) (r : Res Bool) (Q : Bool → Hp → Prop) (W : XK) : Prop := Post RB K S r Q W
def RelE (K : PySem.W.Frag) (S : Wd) (e : En) (σ : L2.St) : Prop := e.length = σ.length ∧ ∀ (i : Nat) d, e[i]? = some (some d) → ∃ v, σ[i]? = some (some v) ∧ Rep K S.i S.F d v
theorem RelE.stp {K : PySem.W.Frag} {S T : Wd} {e : En} {σ : L2.St} (r : RelE K S e σ) (s : Stp S T) : RelE K T e σ := ⟨r.1, fun i d h => let ⟨v, h1, h2⟩ := r.2 i d h; ⟨v, h1, h2.stp s⟩⟩
theorem RelE.set {K : PySem.W.Frag} {S : Wd} {e : En} {σ : L2.St} {d : D} {v : V} (r : RelE K S e σ) (i : Nat) (h : Rep K S.i S.F d v) : RelE K S (e.set i (some d)) (σ.set i (some v)) := by
  refine ⟨by simp [r.1], fun j d' e1 => ?_⟩
  by_cases hj : i = j
  · subst hj
    by_cases hl : i < e.length
    · rw [List.getElem?_set_self hl] at e1
      cases e1
      exact ⟨v, List.getElem?_set_self (by rw [← r.1]; exact hl), h⟩
    · rw [List.getElem?_eq_none (by simpa using hl)] at e1; cases e1
  · rw [List.getElem?_set_ne hj] at e1 ⊢
    exact r.2 j d' e1
def wipeE (e : En) : List Nat → En
  | [] => e
  | v :: vs => (wipeE e vs).set v none
theorem RelE.unset {K : PySem.W.Frag} {S : Wd} {e : En} {σ : L2.St} (r : RelE K S e σ) (i : Nat) : RelE K S (e.set i none) (σ.set i none) := by
  refine ⟨by simp [r.1], fun j d' e1 => ?_⟩
  by_cases hj : i = j
  · subst hj
    by_cases hl : i < e.length
    · rw [List.getElem?_set_self hl] at e1; cases e1
    · rw [List.getElem?_eq_none (by simpa using hl)] at e1; cases e1
  · rw [List.getElem?_set_ne hj] at e1 ⊢
    exact r.2 j d' e1
theorem RelE.wipe {K : PySem.W.Frag} {S : Wd} {e : En} {σ : L2.St} (r : RelE K S e σ) : ∀ vs : List Nat, RelE K S (wipeE e vs) (wipe σ vs)
  | [] => r
  | v :: vs => (RelE.wipe r vs).unset v
inductive RS where
  | stuck
  | nx (e : En) (m : Mu)
  | rt (d : D) (m : Mu)
  | bk (e : En) (m : Mu)
  | ct (e : En) (m : Mu)
  | exc (C : Addr) (fs : List (Str × D)) (e : En) (m : Mu)
def PostS (K : PySem.W.Frag) (S : Wd) (r : RS) (N : Ends) (W : WX) : Prop := match r with
  | .stuck => False
  | .nx e m => ∀ σ T, Stp S T → Sta K T m → RelE K T e σ → N.nx σ T.H
  | .rt d m => ∀ v T, Stp S T → Sta K T m → Rep K T.i T.F d v → N.rt v T.H
  | .bk e m => ∀ σ T, Stp S T → Sta K T m → RelE K T e σ → N.bk σ T.H
  | .ct e m => ∀ σ T, Stp S T → Sta K T m → RelE K T e σ → N.ct σ T.H
  | .exc C fs e m => ∀ dd vs σ T, Stp S T → S.H dd = none → Sta K T m → RelE K T e σ → T.H dd = some (.xd vs) → RepF K T.i T.F fs vs → W (.ref C) (some dd) σ T.H
theorem PostS.step {K : PySem.W.Frag} {S T : Wd} {r : RS} {N : Ends} {W : WX} (s : Stp S T) (h : PostS K S r N W) : PostS K T r N W := by
  cases r with
  | stuck => exact h
  | nx e m => exact fun σ U s1 => h σ U (s.trans s1)
  | rt d m => exact fun v U s1 => h v U (s.trans s1)
  | bk e m => exact fun σ U s1 => h σ U (s.trans s1)
  | ct e m => exact fun σ U s1 => h σ U (s.trans s1)
  | exc C fs e m => exact fun dd vs σ U s1 hn => h dd vs σ U (s.trans s1) (s.old dd hn)
def Fly (X : Cx) (c : Value) (d : Option Addr) (σ : L2.St) (H : Hp) : Prop := Takes X (fun c' d' σ' H' => c' = c ∧ d' = d ∧ σ' = σ ∧ H' = H)
theorem takesFly (X : Cx) : Takes X (Fly X) := fun u s' ⟨a, B, sI, pins, σ, H, cls, d, e, I, nb, up, sky, na, os, ag, w⟩ =>
  w u s' ⟨a, B, sI, pins, σ, H, cls, d, e, I, nb, up, sky, na, os, ag, rfl, rfl, rfl, rfl⟩
theorem Fly.of {X : Cx} {W : WX} (t : Takes X W) {c : Value} {d : Option Addr} {σ : L2.St} {H : Hp} (h : W c d σ H) : Fly X c d σ H := t.imp fun _ _ _ _ ⟨e1, e2, e3, e4⟩ => by subst e1 e2 e3 e4; exact h
def WE (X : Cx) (e : Expr) : TE := fun σ H Q => ∀ (pins : List (Addr × Obj)) (s : Shared), Inv X pins σ H s → wpAny (model X.prog X.w) X.A (eval e X.env) (EP X pins σ Q) X.xe s
def WT (X : Cx) (e : Expr) : TT := fun σ H Q => ∀ (pins : List (Addr × Obj)) (s : Shared), Inv X pins σ H s → wpAny (model X.prog X.w) X.A (isTrue e X.env (eval e X.env)) (TP X pins σ Q) X.xe s
def WW (X : Cx) (e : Expr) : TT := fun σ H Q => ∀ (whole : Sem Value) (pins : List (Addr × Obj)) (s : Shared), Inv X pins σ H s → wpAny (model X.prog X.w) X.A (isTrue e X.env whole) (TP X pins σ Q) X.xe s
def WA (X : Cx) (es : List Expr) : TA := fun σ H Q => ∀ (pos : Pos) (pins : List (Addr × Obj)) (s : Shared), Inv X pins σ H s → wpAny (model X.prog X.w) X.A (spliced (backTo pos (starEach es X.env))) (AP X pins σ Q) X.xe s
def WS (X : Cx) (st : Stmt) : TS := fun N σ H => ∀ (pins : List (Addr × Obj)) (s : Shared), Inv X pins σ H s → wpAny (model X.prog X.w) X.A (exec st X.env) (SP X pins N) X.xe s
def WSs (X : Cx) (st : List Stmt) : TS := fun N σ H => ∀ (pins : List (Addr × Obj)) (s : Shared), Inv X pins σ H s → wpAny (model X.prog X.w) X.A (execs st X.env) (SP X pins N) X.xe s
theorem mxE (X : Cx) (e : Expr) : PE X e (WE X e) := ⟨fun pins s σ H Q I h => h pins s I⟩
theorem mxT (X : Cx) (e : Expr) : PT X e (WT X e) := ⟨fun pins s σ H Q I h => h pins s I⟩
theorem mxW (X : Cx) (e : Expr) : PW X e (WW X e) := ⟨fun wh pins s σ H Q I h => h wh pins s I⟩
theorem mxA (X : Cx) (e : List Expr) : PA X e (WA X e) := ⟨fun pos pins s σ H Q I h => h pos pins s I⟩
theorem mxS (X : Cx) (e : Stmt) : PS X e (WS X e) := ⟨fun pins s σ H Q I h => h pins s I⟩
theorem mxSs (X : Cx) (e : List Stmt) : PSs X e (WSs X e) := ⟨fun pins s σ H Q I h => h pins s I⟩
abbrev DE := En → Mu → Res D
abbrev DT := En → Mu → Res Bool
abbrev DA := En → Mu → Res (List D)
abbrev DS := En → Mu → RS
abbrev DFn := List D → Mu → Res D
def PDE (X : Cx) (e : Expr) (t : DE) : Prop := ∀ S r m σ Q, Sta X.K S m → RelE X.K S r σ → PostD X.K S (t r m) Q (fun c d H => Fly X c d σ H) → WE X e σ S.H Q
def PDT (X : Cx) (e : Expr) (t : DT) : Prop := ∀ S r m σ Q, Sta X.K S m → RelE X.K S r σ → PostB X.K S (t r m) Q (fun c d H => Fly X c d σ H) → WT X e σ S.H Q
def PDW (X : Cx) (e : Expr) (t : DT) : Prop := ∀ S r m σ Q, Sta X.K S m → RelE X.K S r σ → PostB X.K S (t r m) Q (fun c d H => Fly X c d σ H) → WW X e σ S.H Q
def PDA (X : Cx) (e : List Expr) (t : DA) : Prop := ∀ S r m σ Q, Sta X.K S m → RelE X.K S r σ → PostL X.K S (t r m) Q (fun c d H => Fly X c d σ H) → WA X e σ S.H Q
def PDS (X : Cx) (e : Stmt) (t : DS) : Prop := ∀ S r m σ N, Sta X.K S m → RelE X.K S r σ → PostS X.K S (t r m) N (Fly X) → WS X e N σ S.H
def PDSs (X : Cx) (e : List Stmt) (t : DS) : Prop := ∀ S r m σ N, Sta X.K S m → RelE X.K S r σ → PostS X.K S (t r m) N (Fly X) → WSs X e N σ S.H
theorem pd_of {X : Cx} {e : Expr} {u : TE} {t : DE} (h : PE X e u) (k : ∀ S r m σ Q, Sta X.K S m → RelE X.K S r σ → PostD X.K S (t r m) Q (fun c d H => Fly X c d σ H) → u σ S.H Q) : PDE X e t :=
  fun S r m σ Q sa re p pins s I => h.run pins s σ S.H Q I (k S r m σ Q sa re p)
theorem pt_of {X : Cx} {e : Expr} {u : TT} {t : DT} (h : PT X e u) (k : ∀ S r m σ Q, Sta X.K S m → RelE X.K S r σ → PostB X.K S (t r m) Q (fun c d H => Fly X c d σ H) → u σ S.H Q) : PDT X e t :=
  fun S r m σ Q sa re p pins s I => h.run pins s σ S.H Q I (k S r m σ Q sa re p)
theorem pa_of {X : Cx} {e : List Expr} {u : TA} {t : DA} (h : PA X e u) (k : ∀ S r m σ Q, Sta X.K S m → RelE X.K S r σ → PostL X.K S (t r m) Q (fun c d H => Fly X c d σ H) → u σ S.H Q) : PDA X e t :=
  fun S r m σ Q sa re p pos pins s I => h.run pos pins s σ S.H Q I (k S r m σ Q sa re p)
theorem ps_of {X : Cx} {e : Stmt} {u : TS} {t : DS} (h : PS X e u) (k : ∀ S r m σ N, Sta X.K S m → RelE X.K S r σ → PostS X.K S (t r m) N (Fly X) → u N σ S.H) : PDS X e t :=
  fun S r m σ N sa re p pins s I => h.run pins s σ S.H N I (k S r m σ N sa re p)
end DL

namespace DL
open PySem PySem.Spec PyProof.Rows L2
variable [LamTab]
def seqL (m : Mu) : D → Option (List D)
  | .lst ds => some ds
  | .loc n => match m[n]? with
    | some (.lst ds) => some ds
    | _ => none
  | _ => none
def seqT : D → Option (List D)
  | .tup ds => some ds
  | _ => none
section
variable {K : PySem.W.Frag} {S T : Wd} {m : Mu}
theorem seqL_ok {d : D} {v : V} {ds : List D} (sa : Sta K S m) (r : Rep K S.i S.F d v) (h : seqL m d = some ds) : ∃ a xs, v = .ref a ∧ SqL K S.H a xs ∧ Reps K S.i S.F ds xs := by
  cases r with
  | lst h1 h2 => cases h; exact ⟨_, _, rfl, SqL.ext' h1 sa.sub, h2⟩
  | @loc n a h1 =>
    unfold seqL at h
    dsimp only at h
    split at h
    · rename_i ds' e
      cases h
      obtain ⟨xs, q1, q2⟩ := sa.ok n a _ h1 e
      exact ⟨a, xs, rfl, .inl (.inl q1), q2⟩
    · cases h
  | _ => cases h
theorem seqT_ok {d : D} {v : V} {ds : List D} (sa : Sta K S m) (r : Rep K S.i S.F d v) (h : seqT d = some ds) : ∃ a xs, v = .ref a ∧ SqT K S.H a xs ∧ Reps K S.i S.F ds xs := by
  cases r with
  | tup h1 h2 => cases h; exact ⟨_, _, rfl, SqT.ext' h1 sa.sub, h2⟩
  | _ => cases h
end
def dTru (m : Mu) : D → Option Bool
  | .non => some false
  | .bl b => some b
  | .int i => some (i != 0)
  | .str x => if x.length ≤ sizeLine then some ((x.length : Int) != 0) else none
  | .tup ds => some (!ds.isEmpty)
  | .lst ds => some (!ds.isEmpty)
  | .loc n => match m[n]? with
    | some (.lst ds) => some (!ds.isEmpty)
    | _ => none
  | _ => none
def dVar (i : Nat) : DE := fun e m => match e[i]? with
  | some (some d) => .ok d m
  | _ => .stuck
def dC (d : D) : DE := fun _ m => .ok d m
section
variable {X : Cx}
theorem pd_var (i : Nat) {x : Str} {pos : Pos} (hN : X.N[i]? = some x := by rfl) (hv : Vis X.env.scope x := by first | exact Or.inl rfl | exact Or.inr (Or.inl rfl) | exact Or.inr (Or.inr rfl)) (hd : (x == ("__debug__" : Str)) = false := by decide)
    (hcd : (x == ("__classdict__" : Str)) = false := by decide) : PDE X (.Name x pos) (dVar i) := by
  refine pd_of (pe_var (i := i) hN hv hd hcd) fun S r m σ Q sa re p => ?_
  unfold dVar at p
  split at p
  · rename_i d e
    obtain ⟨v, h1, h2⟩ := re.2 i d e
    exact ⟨v, h1, Post.ok p (Stp.refl S) sa h2⟩
  · exact p.elim
theorem pd_int {i j pos} : PDE X (.Constant (.int i) j pos) (dC (.int i)) := pd_of pe_int fun S r m σ Q sa re p => Post.ok p (Stp.refl S) sa (.int i)
theorem pd_bl {i j pos} : PDE X (.Constant (.bool i) j pos) (dC (.bl i)) := pd_of pe_bl fun S r m σ Q sa re p => Post.ok p (Stp.refl S) sa (.bl i)
theorem pd_non {j pos} : PDE X (.Constant .none j pos) (dC .non) := pd_of pe_non fun S r m σ Q sa re p => Post.ok p (Stp.refl S) sa .non
theorem pd_str {i j pos} : PDE X (.Constant (.str i) j pos) (dC (.str i)) := pd_of pe_str fun S r m σ Q sa re p => Post.ok p (Stp.refl S) sa (.str i)
structure RepA (K : PySem.W.Frag) (d : D) (v : V) : Prop where
  to : ∀ (i : List Addr) (F : Hp), Rep K i F d v
theorem RepA.int {K : PySem.W.Frag} (i : Int) : RepA K (.int i) (.int i) := ⟨fun _ _ => .int i⟩
theorem RepA.str {K : PySem.W.Frag} (i : Str) : RepA K (.str i) (.str i) := ⟨fun _ _ => .str i⟩
theorem RepA.val {K : PySem.W.Frag} (i : V) : RepA K (.val i) i := ⟨fun _ _ => .val i⟩
theorem pd_glob {x : Str} {v : V} {d : D} {u : Value} {pos : Pos} (ra : RepA X.K d v) (hm : X.mg x = some u) (r : RelV v u) (hg : Gl X x := by rfl) (hd : (x == ("__debug__" : Str)) = false := by decide) : PDE X (.Name x pos) (dC d) :=
  pd_of (pe_glob hg hm r hd) fun S r m σ Q sa re p => Post.ok p (Stp.refl S) sa (ra.to _ _)
theorem pd_bltn {x : Str} {v : V} {u : Value} {pos : Pos} (hm : X.mg x = none) (hv : bootBuiltins x = some u) (r : RelV v u) (hg : Gl X x := by rfl) (hn : x ≠ "__name__" := by decide) (hd : (x == ("__debug__" : Str)) = false := by decide) : PDE X (.Name x pos) (dC (.val v)) :=
  pd_of (pe_bltn hg hm hv r hn hd) fun S r m σ Q sa re p => Post.ok p (Stp.refl S) sa (.val v)
abbrev D2 := D → D → Mu → Res D
def dBin (f : D2) (a b : DE) : DE := fun e m => (a e m).bind fun x m1 => (b e m1).bind fun y m2 => f x y m2
def OD (X : Cx) (f : Value → Value → Sem Value) (g : D2) : Prop :=
  ∀ (pins : List (Addr × Obj)) (s : Shared) (σ : L2.St) (S : Wd) (m : Mu) (x y : D) (vx vy : V) (u w : Value) (Q : VK), Sta X.K S m → Rep X.K S.i S.F x vx → Rep X.K S.i S.F y vy → Inv X pins σ S.H s → RelV vx u → RelV vy w →
    PostD X.K S (g x y m) Q (fun c d H => Fly X c d σ H) → wpAny (model X.prog X.w) X.A (f u w) (EP X pins σ Q) X.xe s
theorem od_of {f : Value → Value → Sem Value} {g : D2} {r : R2} (ho : OpR X f r)
    (k : ∀ (S : Wd) (m : Mu) (x y : D) (vx vy : V) (Q : VK) (W : XK), Sta X.K S m → Rep X.K S.i S.F x vx → Rep X.K S.i S.F y vy → PostD X.K S (g x y m) Q W → r vx vy S.H Q) : OD X f g :=
  fun pins s σ S m x y vx vy u w Q sa rx ry I hu hw p => ho pins s σ S.H vx vy u w Q I hu hw (k S m x y vx vy Q _ sa rx ry p)
def orD (f g : D2) : D2 := fun x y m => match f x y m with
  | .stuck => g x y m
  | r => r
theorem od_or {f : Value → Value → Sem Value} {g h : D2} (a : OD X f g) (b : OD X f h) : OD X f (orD g h) := by
  intro pins s σ S m x y vx vy u w Q sa rx ry I hu hw p
  unfold orD at p
  split at p
  · exact b pins s σ S m x y vx vy u w Q sa rx ry I hu hw p
  · exact a pins s σ S m x y vx vy u w Q sa rx ry I hu hw p
variable {a b c : Expr} {ta tb tc : DE} {pos : Pos}
theorem pd_two {f : Value → Value → Sem Value} {g : D2} (ha : PDE X a ta) (hb : PDE X b tb) (ho : OD X f g) {S : Wd} {r : En} {m : Mu} {σ : L2.St} {Q : VK} (sa : Sta X.K S m) (re : RelE X.K S r σ)
    (p : PostD X.K S (dBin g ta tb r m) Q (fun c d H => Fly X c d σ H)) {pins : List (Addr × Obj)} {s : Shared} (I : Inv X pins σ S.H s) :
    wpAny (model X.prog X.w) X.A (eval a X.env) (fun v s₁ => wpAny (model X.prog X.w) X.A (eval b X.env) (fun u s₂ => wpAny (model X.prog X.w) X.A (f v u) (EP X pins σ Q) X.xe s₂) X.xe s₁) X.xe s := by
  refine thn (ha S r m σ _ sa re (Post.bindI p (Q' := fun v H => ∃ d m1 T, H = T.H ∧ Stp S T ∧ Sta X.K T m1 ∧ Rep X.K T.i T.F d v ∧ PostD X.K T ((tb r m1).bind fun y m2 => g d y m2) Q (fun c d H => Fly X c d σ H)) fun d m1 v T st sa1 r1 q => ⟨d, m1, T, rfl, st, sa1, r1, q⟩) pins s I) ?_
  rintro v s1 ⟨x, H1, I1, r1, d, m1, T, rfl, st, sa1, rd, q⟩
  refine thn (hb T r m1 σ _ sa1 (re.stp st) (Post.bindI q (Q' := fun w H => ∃ d' m2 U, H = U.H ∧ Stp T U ∧ Sta X.K U m2 ∧ Rep X.K U.i U.F d' w ∧ PostD X.K U (g d d' m2) Q (fun c d H => Fly X c d σ H)) fun d' m2 v U st sa2 r2 q => ⟨d', m2, U, rfl, st, sa2, r2, q⟩) pins s1 I1) ?_
  rintro u s2 ⟨y, H2, I2, r2, d', m2, U, rfl, st2, sa2, rd2, q2⟩
  exact ho pins s2 σ U m2 d d' x y v u Q sa2 (rd.stp st2) rd2 I2 r1 r2 q2
theorem pd_op {op : Operator} {g : D2} (ho : OD X (binaryOp op) g) (ha : PDE X a ta) (hb : PDE X b tb) : PDE X (.BinOp a op b pos) (dBin g ta tb) :=
  fun S r m σ Q sa re p pins s I => wpAny_BinOp (pd_two ha hb ho sa re p I)
theorem pd_cmp {op : CmpOp} {g : D2} (ho : OD X (compareOp op) g) (ha : PDE X a ta) (hb : PDE X b tb) (hm : behindInMarks op b = false := by first | exact nomark _ | rfl) : PDE X (.Compare a [op] [b] pos) (dBin g ta tb) :=
  fun S r m σ Q sa re p pins s I => wpAny_Compare1 (pd_two ha hb ho sa re p I) hm
def dTst (t : DE) : DT := fun e m => (t e m).bind fun d m => match d with
  | .bl b => .ok b m
  | _ => .stuck
theorem EP.bool {pins : List (Addr × Obj)} {σ : L2.St} {S : Wd} {r : Res D} {Q : Bool → Hp → Prop} {W : XK} (p : PostB X.K S (r.bind fun d m => match d with | .bl b => Res.ok b m | _ => .stuck) Q W) :
    PostD X.K S r (fun v H => ∃ b, v = .bl b ∧ Q b H) W := by
  refine Post.bindI p fun d m v T st sa rd q => ?_
  cases rd with
  | bl b => exact ⟨b, rfl, Post.ok q (Stp.refl T) sa rfl⟩
  | _ => exact q.elim
theorem pdt_cmp {op : CmpOp} {g : D2} (ho : OD X (compareOp op) g) (ha : PDE X a ta) (hb : PDE X b tb) (hm : behindInMarks op b = false := by first | exact nomark _ | rfl) : PDT X (.Compare a [op] [b] pos) (dTst (dBin g ta tb)) := by
  intro S r m σ Q sa re p pins s I
  refine wpAny_isTrue_Compare1 (thn (pd_two ha hb ho sa re (EP.bool (pins := pins) (σ := σ) p) I) fun v s1 h1 => thn h1 fun u s2 h2 => thn h2 fun w s3 ⟨x, H1, I1, r1, b, e, q⟩ => ?_) hm
  subst e
  cases r1
  exact wpAny_truthy_bool ⟨H1, I1, q⟩
def dTr (t : DE) : DT := fun e m => (t e m).bind fun d m => match dTru m d with
  | some b => .ok b m
  | none => .stuck
theorem pdt_val (ha : PDE X a ta) (he : ∀ whole, isTrue a X.env whole = (do let v ← whole; standAt a.pos; holding [v] (truthy v)) := by intro _; rfl) : PDT X a (dTst ta) := by
  refine pt_of (pt_val (mxE X a) he) fun S r m σ Q sa re p => ?_
  exact ha S r m σ _ sa re (EP.bool (pins := []) (σ := σ) p)
def dNotT (t : DT) : DT := fun e m => (t e m).bind fun b m => .ok (!b) m
theorem pdt_not {t : DT} (ha : PDT X a t) : PDT X (.UnaryOp .Not a pos) (dNotT t) := by
  refine pt_of (pt_not (mxT X a)) fun S r m σ Q sa re p => ?_
  refine ha S r m σ _ sa re (Post.bindI p fun d m v T st sa rd q => ?_)
  have rd : d = v := rd
  subst rd
  exact Post.ok q (Stp.refl T) sa rfl
def dAndT (t u : DT) : DT := fun e m => (t e m).bind fun b m => if b then u e m else .ok false m
def dOrT (t u : DT) : DT := fun e m => (t e m).bind fun b m => if b then .ok true m else u e m
variable {rest : List Expr} {tt tu : DT}
theorem pdw_and1 (ha : PDT X a tt) : PDW X (.BoolOp .And [a] pos) tt := fun S r m σ Q sa re p wh pins s I => (pw_and1 (mxT X a)).run wh pins s σ S.H Q I (ha S r m σ Q sa re p)
theorem pdw_or1 (ha : PDT X a tt) : PDW X (.BoolOp .Or [a] pos) tt := fun S r m σ Q sa re p wh pins s I => (pw_or1 (mxT X a)).run wh pins s σ S.H Q I (ha S r m σ Q sa re p)
theorem pdw_and (ha : PDT X a tt) (hb : PDW X (.BoolOp .And (b :: rest) pos) tu) : PDW X (.BoolOp .And (a :: b :: rest) pos) (dAndT tt tu) := by
  intro S r m σ Q sa re p wh pins s I
  refine (pw_and (mxT X a) (mxW X _)).run wh pins s σ S.H Q I (ha S r m σ _ sa re (Post.bindI p fun d m v T st sa rd q => ?_))
  have rd : d = v := rd
  subst rd
  cases d with
  | true => exact iteT (hb T r m σ Q sa (re.stp st) q)
  | false => exact iteF (Post.ok q (Stp.refl T) sa rfl)
theorem pdw_or (ha : PDT X a tt) (hb : PDW X (.BoolOp .Or (b :: rest) pos) tu) : PDW X (.BoolOp .Or (a :: b :: rest) pos) (dOrT tt tu) := by
  intro S r m σ Q sa re p wh pins s I
  refine (pw_or (mxT X a) (mxW X _)).run wh pins s σ S.H Q I (ha S r m σ _ sa re (Post.bindI p fun d m v T st sa rd q => ?_))
  have rd : d = v := rd
  subst rd
  cases d with
  | true => exact iteT (Post.ok q (Stp.refl T) sa rfl)
  | false => exact iteF (hb T r m σ Q sa (re.stp st) q)
theorem PDW.pt {e : Expr} {t : DT} (h : PDW X e t) : PDT X e t := fun S r m σ Q sa re p pins s I => h S r m σ Q sa re p _ pins s I
def dAnd (t u : DE) : DE := fun e m => (t e m).bind fun d m => match d with
  | .bl true => u e m
  | .bl false => .ok (.bl false) m
  | _ => .stuck
def dOr (t u : DE) : DE := fun e m => (t e m).bind fun d m => match d with
  | .bl false => u e m
  | .bl true => .ok (.bl true) m
  | _ => .stuck
theorem pd_one {op} (h : PDE X a ta) : PDE X (.BoolOp op [a] pos) ta := pd_of (pe_one (mxE X a)) h
theorem pd_and (ha : PDE X a ta) (hb : PDE X (.BoolOp .And (b :: rest) pos) tb) : PDE X (.BoolOp .And (a :: b :: rest) pos) (dAnd ta tb) := by
  refine pd_of (pe_and (mxE X a) (mxE X _)) fun S r m σ Q sa re p => ?_
  refine ha S r m σ _ sa re (Post.bindI p fun d m v T st sa rd q => ?_)
  cases rd with
  | bl b =>
    refine ⟨b, rfl, ?_⟩
    cases b with
    | true => exact iteT (hb T r m σ Q sa (re.stp st) q)
    | false => exact iteF (Post.ok q (Stp.refl T) sa (.bl false))
  | _ => exact q.elim
def dNot (t : DE) : DE := fun e m => (t e m).bind fun d m => match d with
  | .bl b => .ok (.bl !b) m
  | _ => .stuck
theorem pd_not (ha : PDE X a ta) : PDE X (.UnaryOp .Not a pos) (dNot ta) := by
  refine pd_of (pe_not (mxE X a)) fun S r m σ Q sa re p => ?_
  refine ha S r m σ _ sa re (Post.bindI p fun d m v T st sa rd q => ?_)
  cases rd with
  | bl b => exact ⟨b, rfl, Post.ok q (Stp.refl T) sa (.bl _)⟩
  | _ => exact q.elim
def dIf (t : DT) (u w : DE) : DE := fun e m => (t e m).bind fun b m => if b then u e m else w e m
theorem pd_if {c : Expr} (hc : PDT X c tt) (ha : PDE X a ta) (hb : PDE X b tb) : PDE X (.IfExp c a b pos) (dIf tt ta tb) := by
  refine pd_of (pe_ifExp (mxT X c) (mxE X a) (mxE X b)) fun S r m σ Q sa re p => ?_
  refine hc S r m σ _ sa re (Post.bindI p fun d m v T st sa rd q => ?_)
  have rd : d = v := rd
  subst rd
  cases d with
  | true => exact iteT (ha T r m σ Q sa (re.stp st) q)
  | false => exact iteF (hb T r m σ Q sa (re.stp st) q)
theorem PDE.run {γ δ : Type} {R' : Wd → γ → δ → Prop} {a : Expr} {ta : DE} (ha : PDE X a ta) {S : Wd} {r : En} {m : Mu} {σ : L2.St} {f : D → Mu → Res γ} {Q : δ → Hp → Prop} (sa : Sta X.K S m) (re : RelE X.K S r σ)
    (p : Post R' X.K S ((ta r m).bind f) Q (fun c d H => Fly X c d σ H)) {pins : List (Addr × Obj)} {s : Shared} (I : Inv X pins σ S.H s) :
    wpAny (model X.prog X.w) X.A (eval a X.env) (fun v s1 => ∃ (x : V) (d : D) (m1 : Mu) (T : Wd), Stp S T ∧ Sta X.K T m1 ∧ Rep X.K T.i T.F d x ∧ RelV x v ∧ Inv X pins σ T.H s1 ∧ Post R' X.K T (f d m1) Q (fun c d H => Fly X c d σ H)) X.xe s := by
  refine thn (ha S r m σ _ sa re (Post.bindI p (Q' := fun v H => ∃ d m1 T, H = T.H ∧ Stp S T ∧ Sta X.K T m1 ∧ Rep X.K T.i T.F d v ∧ Post R' X.K T (f d m1) Q (fun c d H => Fly X c d σ H)) fun d m1 v T st sa1 r1 q => ⟨d, m1, T, rfl, st, sa1, r1, q⟩) pins s I) ?_
  rintro v s1 ⟨x, H1, I1, r1, d, m1, T, rfl, st, sa1, rd, q⟩
  exact ⟨x, d, m1, T, st, sa1, rd, r1, I1, q⟩
theorem OD.run {γ δ : Type} {R' : Wd → γ → δ → Prop} {f : Value → Value → Sem Value} {g : D2} (ho : OD X f g) {S : Wd} {m : Mu} {σ : L2.St} {h : D → Mu → Res γ} {Q : δ → Hp → Prop} {x y : D} {vx vy : V} {u w : Value} (sa : Sta X.K S m)
    (rx : Rep X.K S.i S.F x vx) (ry : Rep X.K S.i S.F y vy) (hu : RelV vx u) (hw : RelV vy w)
    (p : Post R' X.K S ((g x y m).bind h) Q (fun c d H => Fly X c d σ H)) {pins : List (Addr × Obj)} {s : Shared} (I : Inv X pins σ S.H s) :
    wpAny (model X.prog X.w) X.A (f u w) (fun v s1 => ∃ (x : V) (d : D) (m1 : Mu) (T : Wd), Stp S T ∧ Sta X.K T m1 ∧ Rep X.K T.i T.F d x ∧ RelV x v ∧ Inv X pins σ T.H s1 ∧ Post R' X.K T (h d m1) Q (fun c d H => Fly X c d σ H)) X.xe s := by
  refine thn (ho pins s σ S m x y vx vy u w _ sa rx ry I hu hw (Post.bindI p (Q' := fun v H => ∃ d m1 T, H = T.H ∧ Stp S T ∧ Sta X.K T m1 ∧ Rep X.K T.i T.F d v ∧ Post R' X.K T (h d m1) Q (fun c d H => Fly X c d σ H)) fun d m1 v T st sa1 r1 q => ⟨d, m1, T, rfl, st, sa1, r1, q⟩)) ?_
  rintro v s1 ⟨x, H1, I1, r1, d, m1, T, rfl, st, sa1, rd, q⟩
  exact ⟨x, d, m1, T, st, sa1, rd, r1, I1, q⟩
def dChain (g h : D2) (ta tb tc : DE) : DE := fun e m => (ta e m).bind fun x m1 => (tb e m1).bind fun y m2 => (g x y m2).bind fun z m3 => match z with
  | .bl true => (tc e m3).bind fun w m4 => h y w m4
  | .bl false => .ok (.bl false) m3
  | _ => .stuck
end
end DL

namespace DL
open PySem PySem.Spec PyProof.Rows L2
variable [LamTab]
def isStar : Expr → Bool
  | .Starred _ _ => true
  | _ => false
theorem se_cons (e : Expr) (rest : List Expr) (env : Env) (h : isStar e = false) : starEach (e :: rest) env = (false, eval e env) :: starEach rest env := by
  cases e <;> first | rfl | (cases h)
theorem se_any (pos : Pos) (env : Env) : ∀ (es : List Expr), es.all (fun e => !isStar e) = true → (backTo pos (starEach es env)).any (·.1) = false := fun es => by
  induction es with
  | nil => intro _; rfl
  | cons e es ih =>
    intro h
    simp only [List.all_cons, Bool.and_eq_true, Bool.not_eq_true'] at h
    rw [se_cons e es env h.1]
    exact ih h.2
def dNil : DA := fun _ m => .ok [] m
def dCons (t : DE) (u : DA) : DA := fun e m => (t e m).bind fun d m1 => (u e m1).bind fun ds m2 => .ok (d :: ds) m2
section
variable {X : Cx} {a : Expr} {es : List Expr} {ta : DE} {t : DA} {pos : Pos}
theorem pda_nil : PDA X [] dNil := pa_of pa_nil fun S r m σ Q sa re p => Post.ok p (Stp.refl S) sa .nil
theorem pda_cons (ha : PDE X a ta) (hr : PDA X es t) (hs : starEach (a :: es) X.env = (false, eval a X.env) :: starEach es X.env := by exact se_cons _ _ _ rfl) : PDA X (a :: es) (dCons ta t) := by
  refine pa_of (pa_cons (mxE X a) (mxA X es) hs) fun S r m σ Q sa re p => ?_
  refine ha S r m σ _ sa re (Post.bindI p fun d m1 v T st sa1 rd q => ?_)
  refine hr T r m1 σ _ sa1 (re.stp st) (Post.bindI q fun ds m2 vs U st2 sa2 rds q2 => ?_)
  exact Post.ok q2 (Stp.refl U) sa2 (.cons (rd.stp st2) rds)
theorem pda_str {i : Str} {j : Nat} {p : Pos} (hr : PDA X es t) : PDA X (.Constant (.str i) j p :: es) (dCons (dC (.str i)) t) := pda_cons pd_str hr (se_cons _ _ _ rfl)
theorem pda_int {i : Int} {j : Nat} {p : Pos} (hr : PDA X es t) : PDA X (.Constant (.int i) j p :: es) (dCons (dC (.int i)) t) := pda_cons pd_int hr (se_cons _ _ _ rfl)
theorem pda_bl {i : Bool} {j : Nat} {p : Pos} (hr : PDA X es t) : PDA X (.Constant (.bool i) j p :: es) (dCons (dC (.bl i)) t) := pda_cons pd_bl hr (se_cons _ _ _ rfl)
theorem pda_non {j : Nat} {p : Pos} (hr : PDA X es t) : PDA X (.Constant .none j p :: es) (dCons (dC .non) t) := pda_cons pd_non hr (se_cons _ _ _ rfl)
theorem PDA.run {γ δ : Type} {R' : Wd → γ → δ → Prop} (ha : PDA X es t) {S : Wd} {r : En} {m : Mu} {σ : L2.St} {f : List D → Mu → Res γ} {Q : δ → Hp → Prop} (sa : Sta X.K S m) (re : RelE X.K S r σ)
    (p : Post R' X.K S ((t r m).bind f) Q (fun c d H => Fly X c d σ H)) {pins : List (Addr × Obj)} {s : Shared} (I : Inv X pins σ S.H s) (pos : Pos) :
    wpAny (model X.prog X.w) X.A (spliced (backTo pos (starEach es X.env))) (fun us s1 => ∃ (xs : List V) (ds : List D) (m1 : Mu) (T : Wd), Stp S T ∧ Sta X.K T m1 ∧ Reps X.K T.i T.F ds xs ∧ Vals xs us ∧ Inv X pins σ T.H s1 ∧ Post R' X.K T (f ds m1) Q (fun c d H => Fly X c d σ H)) X.xe s := by
  refine thn (ha S r m σ _ sa re (Post.bindI p (Q' := fun v H => ∃ d m1 T, H = T.H ∧ Stp S T ∧ Sta X.K T m1 ∧ Reps X.K T.i T.F d v ∧ Post R' X.K T (f d m1) Q (fun c d H => Fly X c d σ H)) fun d m1 v T st sa1 r1 q => ⟨d, m1, T, rfl, st, sa1, r1, q⟩) pos pins s I) ?_
  rintro us s1 ⟨xs, H1, I1, r1, d, m1, T, rfl, st, sa1, rd, q⟩
  exact ⟨xs, d, m1, T, st, sa1, rd, r1, I1, q⟩
def dTup (t : DA) : DE := fun e m => (t e m).bind fun ds m1 => if ds.length ≤ sizeLine then .ok (.tup ds) m1 else .stuck
def dLst (t : DA) : DE := fun e m => (t e m).bind fun ds m1 => if ds.length ≤ sizeLine then .ok (.lst ds) m1 else .stuck
def dLoc (t : DA) : DE := fun e m => (t e m).bind fun ds m1 => if ds.length ≤ sizeLine then .ok (.loc m1.length) (m1 ++ [.lst ds]) else .stuck
theorem pd_tup {x1} (h : PDA X es t) : PDE X (.Tuple es x1 pos) (dTup t) := by
  refine pd_of (pe_tup (mxA X es)) fun S r m σ Q sa re p => ?_
  refine h S r m σ _ sa re (Post.bindI p fun ds m1 vs T st sa1 rds q => ?_)
  split at q
  · rename_i hl
    refine ⟨by rw [← rds.len]; exact hl, fun p hp => ?_⟩
    have st1 := Stp.new sa1 (o := .tup vs) hp
    exact q (.ref p) (T.new p (.tup vs)) st1 (sa1.new hp) (.tup (.inl (.inl upd_same)) (rds.stp st1))
  · exact q.elim
theorem pd_lst (h : PDA X es t) : PDE X (.List es pos) (dLst t) := by
  refine pd_of (pe_lst (mxA X es)) fun S r m σ Q sa re p => ?_
  refine h S r m σ _ sa re (Post.bindI p fun ds m1 vs T st sa1 rds q => ?_)
  split at q
  · rename_i hl
    refine ⟨by rw [← rds.len]; exact hl, fun p hp => ?_⟩
    have st1 := Stp.new sa1 (o := .lst vs) hp
    exact q (.ref p) (T.new p (.lst vs)) st1 (sa1.new hp) (.lst (.inl (.inl upd_same)) (rds.stp st1))
  · exact q.elim
theorem pd_loc (h : PDA X es t) : PDE X (.List es pos) (dLoc t) := by
  refine pd_of (pe_lst (mxA X es)) fun S r m σ Q sa re p => ?_
  refine h S r m σ _ sa re (Post.bindI p fun ds m1 vs T st sa1 rds q => ?_)
  split at q
  · rename_i hl
    refine ⟨by rw [← rds.len]; exact hl, fun p hp => ?_⟩
    have st1 := Stp.tok sa1 (o := .lst vs) hp
    refine q (.ref p) (T.tok p (.lst vs)) st1 (sa1.tok hp (q := .lst ds) ⟨vs, upd_same, rds.stp st1⟩) (.loc ?_)
    show (T.i ++ [p])[m1.length]? = some p
    rw [← sa1.len, List.getElem?_append_right (Nat.le_refl _), Nat.sub_self]
    rfl
  · exact q.elim
end
def spD (K : PySem.W.Frag) (n : Nat) (F : DFn) : Sp := fun vs H Q E => vs.length = n ∧ ∃ (S : Wd) (m : Mu) (ds : List D), S.H = H ∧ Sta K S m ∧ Reps K S.i S.F ds vs ∧ PostD K S (F ds m) Q E
abbrev FnD (P : Program) (w : World) (K : PySem.W.Frag) (mg : Str → Option Value) (base : Heap) (k : Nat) (f : Addr) (fd : FuncData) (ps : List Str) (F : DFn) : Prop := FnOk P w K mg base (L2.CX P w) k f fd ps (spD K ps.length F)
def env0 (N : Nat) (ds : List D) : En := ds.map some ++ List.replicate (N - ds.length) none
def dFn (N : Nat) (body : DS) : DFn := fun ds m => match body (env0 N ds) m with
  | .nx _ m1 => .ok .non m1
  | .rt d m1 => .ok d m1
  | .exc C fs _ m1 => .exc C fs m1
  | _ => .stuck
theorem relE_start {K : PySem.W.Frag} {S : Wd} {ds : List D} {vs : List V} {N : List Str} (r : Reps K S.i S.F ds vs) : RelE K S (env0 N.length ds) (L2.start N vs) := by
  have hl := r.len
  refine ⟨by simp [env0, L2.start, hl], fun i d e => ?_⟩
  unfold env0 at e
  by_cases hi : i < ds.length
  · rw [List.getElem?_append_left (by simpa using hi), List.getElem?_map] at e
    cases q : ds[i]? with
    | none => rw [q] at e; cases e
    | some d' =>
      rw [q] at e; cases e
      obtain ⟨v, h1, h2⟩ := r.get q
      refine ⟨v, ?_, h2⟩
      unfold L2.start
      rw [List.getElem?_append_left (by rw [List.length_map, ← hl]; exact hi), List.getElem?_map, h1]
      rfl
  · rw [List.getElem?_append_right (by simpa using hi), List.getElem?_replicate] at e
    split at e <;> cases e
section
variable {P : Program} {w : World} {K : PySem.W.Frag} {mg : Str → Option Value} {base : Heap}
theorem fnD_of {x qual : Str} {params : Arguments} {body : List Stmt} {scope : Scope} {dvs : List V} {kws : List (Str × V)} {f : Addr} {fd : FuncData} {N ps : List Str} {k : Nat} {t : DS} (F : FunD K x qual params body scope dvs kws f fd) (S : FnScope N ps scope)
    (h : ∀ (cdv : Value) (A : Around) (outer : List Env) (s : Shared) (H : Hp) (E : XK), Room k (A.deeper (envOfC qual scope s.heap.objs.size f cdv)) → PDSs (cxOf (L2.CX P w) P w K mg base N qual scope f cdv A outer s H E) body t) :
    FnD P w K mg base (k + 1) f fd ps (dFn N.length t) := by
  refine F.ok S (fun vs H Q E h => h.1) fun cdv A outer s H vs Q E hr hsp => ⟨_, mxSs _ body, ?_⟩
  obtain ⟨_, T, m, ds, rfl, sa, rd, p⟩ := hsp
  refine h cdv A outer s T.H E hr T (env0 N.length ds) m (L2.start N vs) _ sa (relE_start rd) ?_
  have tk : Takes (cxOf (L2.CX P w) P w K mg base N qual scope f cdv A outer s T.H E) (fun cls d _ H => E cls d H) := takes_of rfl rfl rfl rfl
  unfold dFn at p
  cases q : t (env0 N.length ds) m with
  | stuck => rw [q] at p; exact p.elim
  | nx e m1 => rw [q] at p; exact fun σ U st sa1 re => p .non U st sa1 .non
  | rt d m1 => rw [q] at p; exact fun v U st sa1 r1 => p v U st sa1 r1
  | bk e m1 => rw [q] at p; exact p.elim
  | ct e m1 => rw [q] at p; exact p.elim
  | exc C fs e m1 => rw [q] at p; exact fun dd vs σ U st hn sa1 re h1 h2 => Fly.of tk (p dd vs U st hn sa1 h1 h2)
theorem FnD.imp' {k : Nat} {f : Addr} {fd : FuncData} {ps : List Str} {F G : DFn} (h : FnD P w K mg base k f fd ps F) (e : ∀ ds m, G ds m ≠ .stuck → F ds m = G ds m) : FnD P w K mg base k f fd ps G :=
  FnOk.imp h fun vs H Q E ⟨h1, S, m, ds, h2, h3, h4, h5⟩ => ⟨h1, S, m, ds, h2, h3, h4, by
    by_cases hs : G ds m = .stuck
    · rw [hs] at h5; exact h5.elim
    · rw [e ds m hs]; exact h5⟩
end
structure Bd (K : PySem.W.Frag) (fd : FuncData) (ps : List Str) (dds : List D) : Prop where
  ex : ∃ (ds : List Value) (dvs : List V), Binds K fd ps ds ∧ Vals dvs ds ∧ ∀ (i : List Addr) (F : Hp), Reps K i F dds dvs
theorem Bd.nil {K : PySem.W.Frag} {fd : FuncData} {ps : List Str} (h : Binds K fd ps []) : Bd K fd ps [] := ⟨[], [], h, .nil, fun _ _ => .nil⟩
section
variable {X : Cx} {k : Nat} {f : Addr} {fd : FuncData} {ps : List Str} {G : DFn} {dds : List D}
variable {x mn : Str} {p pos apos : Pos} {e o : Expr} {es : List Expr} {t : DA} {to : DE}
def insOf (m : Mu) : D → Option (Addr × List Str × List D)
  | .obj c ds => some (c.a, c.ns, ds)
  | .loc n => match m[n]? with
    | some (.ins C fs) => some (C, fs.map (·.1), fs.map (·.2))
    | _ => none
  | _ => none
theorem RepF.split {K : PySem.W.Frag} {i : List Addr} {F : Hp} : ∀ {fs : List (Str × D)} {vs : List (Str × V)}, RepF K i F fs vs → vs.map (·.1) = fs.map (·.1) ∧ Reps K i F (fs.map (·.2)) (vs.map (·.2))
  | _, _, .nil => ⟨rfl, .nil⟩
  | _, _, .cons h r => ⟨by simp [(RepF.split r).1], .cons h (RepF.split r).2⟩
theorem insOf_ok {K : PySem.W.Frag} {S : Wd} {m : Mu} {d : D} {v : V} {C : Addr} {ns : List Str} {ds : List D} (sa : Sta K S m) (r : Rep K S.i S.F d v) (h : insOf m d = some (C, ns, ds)) :
    ∃ a dx vs, v = .ref a ∧ S.H a = some (.ins C dx vs) ∧ vs.map (·.1) = ns ∧ Reps K S.i S.F ds (vs.map (·.2)) := by
  cases r with
  | obj h1 h2 h3 => cases h; exact ⟨_, _, _, rfl, sa.sub _ _ h1, h2, h3⟩
  | @loc n a h1 =>
    unfold insOf at h
    dsimp only at h
    split at h
    · rename_i C' fs e
      cases h
      obtain ⟨dx, vs, q1, q2⟩ := sa.ok n a _ h1 e
      exact ⟨a, dx, vs, rfl, q1, q2.split.1, q2.split.2⟩
    · cases h
  | _ => cases h
theorem lookup_at {α : Type} {f : Str} : ∀ {vs : List (Str × α)} {i : Nat} {v : α}, (vs.map (·.1))[i]? = some f → f ∉ (vs.map (·.1)).take i → (vs.map (·.2))[i]? = some v → vs.lookup f = some v
  | [], _, _, h, _, _ => by simp at h
  | (g, x) :: r, 0, v, h, _, h3 => by
    simp at h h3; subst h; subst h3
    simp [List.lookup_cons]
  | (g, x) :: r, i + 1, v, h, h2, h3 => by
    have hne : f ≠ g := by
      intro e; subst e
      exact h2 (by simp)
    rw [List.lookup_cons]
    have : (f == g) = false := by simpa using hne
    rw [this]
    refine lookup_at (i := i) (by simpa using h) (fun z => h2 ?_) (by simpa using h3)
    simp only [List.map_cons, List.take_succ_cons]
    exact List.mem_cons_of_mem _ z
def fldAt (rows : List (Kl × Nat)) (C : Addr) (ns : List Str) (ds : List D) : Option D := match rows with
  | [] => none
  | (c, i) :: rest => if C = c.a ∧ ns = c.ns then ds[i]? else fldAt rest C ns ds
def dFld (rows : List (Kl × Nat)) (t : DE) : DE := fun e m => (t e m).bind fun d m1 => match insOf m1 d with
  | some (C, ns, ds) => match fldAt rows C ns ds with
    | some x => .ok x m1
    | none => .stuck
  | none => .stuck
structure FldOk (K : PySem.W.Frag) (f : Str) (c : Kl) (i : Nat) : Prop where
  cl : Cls K c.a
  no : NoAttr K c.a f
  at_ : c.ns[i]? = some f
  fst : f ∉ c.ns.take i
theorem fldAt_ok {K : PySem.W.Frag} {f : Str} : ∀ {rows : List (Kl × Nat)} {C : Addr} {ns : List Str} {ds : List D} {d : D}, (∀ r ∈ rows, FldOk K f r.1 r.2) → fldAt rows C ns ds = some d → ∃ c i, FldOk K f c i ∧ C = c.a ∧ ns = c.ns ∧ ds[i]? = some d
  | [], _, _, _, _, _, h => by cases h
  | (c, i) :: rest, C, ns, ds, d, hr, h => by
    unfold fldAt at h
    split at h
    · rename_i e
      exact ⟨c, i, hr _ List.mem_cons_self, e.1, e.2, h⟩
    · exact fldAt_ok (fun r hm => hr r (List.mem_cons_of_mem _ hm)) h
theorem pd_fld {f : Str} {rows : List (Kl × Nat)} (he : PDE X o to) (hrows : ∀ r ∈ rows, FldOk X.K f r.1 r.2) (hb : attributeBase o f X.env (eval o X.env) = eval o X.env := by rfl) : PDE X (.Attribute o f pos) (dFld rows to) := by
  refine pd_of (pe_fld (mxE X o) hb) fun S r m σ Q sa re p => ?_
  refine he S r m σ _ sa re (Post.bindI p fun d m1 v T st sa1 rd q => ?_)
  split at q
  · rename_i C ns ds e
    split at q
    · rename_i x ex
      obtain ⟨c, i, ok, rfl, rfl, hx⟩ := fldAt_ok hrows ex
      obtain ⟨a, dx, vs, rfl, h1, h2, h3⟩ := insOf_ok sa1 rd e
      obtain ⟨y, hy, ry⟩ := h3.get hx
      exact ⟨a, c.a, dx, vs, y, rfl, h1, ok.cl, ok.no, lookup_at (by rw [h2]; exact ok.at_) (by rw [h2]; exact ok.fst) hy, Post.ok q (Stp.refl T) sa1 ry⟩
    · exact q.elim
  · exact q.elim
end
end DL

namespace DL
open PySem PySem.Spec PyProof.Rows L2
variable [LamTab]
def padF (n : Nat) (dds : List D) (G : DFn) : DFn := fun ds m => if (ds ++ dds).length = n then G (ds ++ dds) m else .stuck
section
variable (P : Program) (w : World) (K : PySem.W.Frag) (mg : Str → Option Value) (base : Heap)
structure FT (k : Nat) (x : Str) (G : DFn) : Prop where
  ex : ∃ (f : Addr) (fd : FuncData) (ps : List Str) (dds : List D) (G0 : DFn), mg x = some (.ref f) ∧ PySem.W.keepIn K (.ref f) = true ∧ FnD P w K mg base k f fd ps G0 ∧ Bd K fd ps dds ∧ G = padF ps.length dds G0
structure MT (k : Nat) (mn : Str) (C : Addr) (G : DFn) : Prop where
  ex : ∃ (f : Addr) (fd : FuncData) (ps : List Str) (dds : List D) (G0 : DFn), PySem.W.findIn K (.ref C) mn = some (some (.ref f)) ∧ PySem.W.isFn K (.ref f) = true ∧ PySem.W.keepIn K (.ref f) = true ∧ FnD P w K mg base k f fd ps G0 ∧ Bd K fd ps dds ∧ G = padF ps.length dds G0
end
section
variable {X : Cx}
theorem run_fnA {k : Nat} {f : Addr} {fd : FuncData} {ps : List Str} {G : DFn} {dds : List D} {A : Around} {pins : List (Addr × Obj)} {σ : L2.St} {S : Wd} {m : Mu} {s : Shared} {Q : VK} {us : List Value} {vs : List V} {das : List D} (F : FnD X.prog X.w X.K X.mg X.base k f fd ps G) (hr : Room k A) (hb : Bd X.K fd ps dds)
    (hA : A.frames = X.A.frames) (I : Inv X pins σ S.H s) (sa : Sta X.K S m) (r : Reps X.K S.i S.F das vs) (rv : Vals vs us) (h : PostD X.K S (padF ps.length dds G das m) Q (fun c d H => Fly X c d σ H)) : wpAny (model X.prog X.w) A (call (.ref f) us) (EP X pins σ Q) X.xe s := by
  unfold padF at h
  split at h
  · rename_i hl
    obtain ⟨ds, dvs, hb, hd, hD⟩ := hb.ex
    have r1 : Reps X.K S.i S.F (das ++ dds) (vs ++ dvs) := r.append (hD _ _)
    have r2 : Vals (vs ++ dvs) (us ++ ds) := rv.append hd
    have hlv : (vs ++ dvs).length = ps.length := by rw [← r1.len]; exact hl
    have hl2 : (us ++ ds).length = ps.length := by rw [← r2.length]; exact hlv
    have e0 := I.env0
    have e1 : Env0 X.prog X.w X.K X.mg X.base A X.stack s S.H := ⟨hA.trans e0.frames, e0.mod, e0.bs, e0.bsz, e0.funs, e0.frf, e0.hok, e0.bare⟩
    refine wpAny_call (codeAny_mono (F.run A X.stack s S.H ⟨us, []⟩ (us ++ ds) (vs ++ dvs) Q (fun c d H => Fly X c d σ H) hr e1 (hb s us I.kIn hl2) r2 ⟨hlv, S, m, _, rfl, sa, r1, h⟩) fun r s' hq => ?_)
    cases r with
    | error e =>
      obtain ⟨a, B, sI, pins', σ', H', cls, d, e1, I', nb, up, sky, na, os, ag, e2, fl⟩ := XE.of_call I (W := fun c d σ' H => σ' = σ ∧ Fly X c d σ H) (fun cls d H' h => ⟨rfl, h⟩) hq
      exact fl e s' ⟨a, B, sI, pins', σ', H', cls, d, e1, I', nb, up, sky, na, os, ag, rfl, rfl, e2, rfl⟩
    | ok fl =>
      cases fl with
      | ret u => exact I.after hq
      | next => exact False.elim hq
      | brk => exact False.elim hq
      | cont => exact False.elim hq
  · exact h.elim
def dFun (G : DFn) (t : DA) : DE := fun e m => (t e m).bind G
variable {k : Nat} {G : DFn} {x mn : Str} {p pos apos : Pos} {e o : Expr} {es : List Expr} {t : DA} {to ta tb : DE}
theorem pd_fun (F : FT X.prog X.w X.K X.mg X.base k x G) (hr : Room k X.A) (ha : PDA X (e :: es) t)
    (hg : Gl X x := by rfl) (hdb : (x == ("__debug__" : Str)) = false := by decide) (he : starEach (e :: es) X.env = (false, eval e X.env) :: starEach es X.env := by exact se_cons _ _ _ rfl) (hpl : (backTo pos (starEach es X.env)).any (·.1) = false := by exact se_any _ _ _ rfl) :
    PDE X (.Call (.Name x p) (e :: es) [] pos) (dFun G t) := by
  obtain ⟨f, fd, ps, dds, G0, hm, hk, hf, hb, rfl⟩ := F.ex
  intro S r m σ Q sa re q pins s I
  refine wpAny_Call_Name_kw (ld_glob I hg hm ?_ hdb)
  refine PySem.W.callWith_K (h₀ := X.base) I.ok.mod.kin hk (thn (ha.run sa re q I pos) ?_) he hpl
  rintro us s1 ⟨xs, ds, m1, T, st, sa1, rds, rv, I1, q1⟩
  exact ⟨I1.kIn, run_fnA hf hr hb rfl I1 sa1 rds rv q1⟩
def methAt (rows : List (Kl × DFn)) (C : Addr) (ns : List Str) : Option DFn := match rows with
  | [] => none
  | (c, G) :: rest => if C = c.a ∧ ns = c.ns then some G else methAt rest C ns
theorem methAt_ok {P : Kl → DFn → Prop} : ∀ {rows : List (Kl × DFn)} {C : Addr} {ns : List Str} {G : DFn}, (∀ r ∈ rows, P r.1 r.2) → methAt rows C ns = some G → ∃ c, P c G ∧ C = c.a ∧ ns = c.ns
  | [], _, _, _, _, h => by cases h
  | (c, i) :: rest, C, ns, d, hr, h => by
    unfold methAt at h
    split at h
    · rename_i e
      cases h
      exact ⟨c, hr _ List.mem_cons_self, e.1, e.2⟩
    · exact methAt_ok (fun r hm => hr r (List.mem_cons_of_mem _ hm)) h
def dMeth (rows : List (Kl × DFn)) (to : DE) (t : DA) : DE := fun e m => (to e m).bind fun o m1 => match insOf m1 o with
  | some (C, ns, _) => match methAt rows C ns with
    | some G => (t e m1).bind fun ds m2 => G (o :: ds) m2
    | none => .stuck
  | none => .stuck
structure MethOk (P : Program) (w : World) (K : PySem.W.Frag) (mg : Str → Option Value) (base : Heap) (k : Nat) (mn : Str) (c : Kl) (G : DFn) : Prop where
  cl : Cls K c.a
  mt : MT P w K mg base k mn c.a G
  no : mn ∉ c.ns
structure PropOk (P : Program) (w : World) (K : PySem.W.Frag) (mg : Str → Option Value) (base : Heap) (k : Nat) (f : Str) (c : Kl) (G : DFn) : Prop where
  cl : Cls K c.a
  ex : ∃ (p g : Addr) (fd : FuncData) (ps : List Str) (G0 : DFn), PropOf K c.a f p g ∧ FnD P w K mg base k g fd ps G0 ∧ Bd K fd ps [] ∧ G = padF ps.length [] G0
def noExc (r : Res D) : Res D := match r with
  | .ok d m => .ok d m
  | _ => .stuck
def dProp (rows : List (Kl × DFn)) (to : DE) : DE := fun e m => (to e m).bind fun o m1 => match insOf m1 o with
  | some (C, ns, _) => match methAt rows C ns with
    | some G => noExc (G [o] m1)
    | none => .stuck
  | none => .stuck
theorem pd_prop {f : Str} {rows : List (Kl × DFn)} (he : PDE X o to) (hrows : ∀ r ∈ rows, PropOk X.prog X.w X.K X.mg X.base k f r.1 r.2) (hr : Room (k + 1) X.A) (hab : attributeBase o f X.env (eval o X.env) = eval o X.env := by rfl) :
    PDE X (.Attribute o f pos) (dProp rows to) := by
  intro S r m σ Q sa re q pins s I
  refine attr_of hab (thn (he.run sa re q I) ?_)
  rintro u s1 ⟨x, d, m1, T, st, sa1, rd, rx, I1, q1⟩
  split at q1
  · rename_i C ns ds ei
    split at q1
    · rename_i G eG
      obtain ⟨c, ok, rfl, rfl⟩ := methAt_ok (P := PropOk X.prog X.w X.K X.mg X.base k f) hrows eG
      obtain ⟨a, dx, vs, rfl, h1, h2, h3⟩ := insOf_ok sa1 rd ei
      obtain ⟨pp, g, fd, ps, G0, hp, hf, hb, rfl⟩ := ok.ex
      obtain rfl : u = Value.ref a := rx
      unfold padF at q1
      split at q1
      · rename_i hl
        have hl' : [d].length = ps.length := by simpa using hl
        cases hG : G0 ([d] ++ []) m1 with
        | stuck => rw [hG] at q1; exact (show False from q1).elim
        | exc C fs m2 => rw [hG] at q1; exact (show False from q1).elim
        | ok dv m2 =>
          rw [hG] at q1
          obtain ⟨ds', dvs, hb1, hd1, hD⟩ := hb.ex
          have hnil : dvs = [] := by
            have := hD [] (fun _ => none)
            cases this; rfl
          subst hnil
          cases hd1
          refine getprop_ok (sp := spD X.K ps.length G0) (E := E0) I1 h1 ok.cl hp hf hr hb1 .nil passL ⟨by simpa using hl', T, m1, [d], rfl, sa1, .cons rd .nil, ?_⟩
          rw [show ([d] : List D) = [d] ++ [] from rfl, hG]
          exact q1
      · exact (show False from q1).elim
    · exact (show False from q1).elim
  · exact (show False from q1).elim
theorem Inv.inst {pins : List (Addr × Obj)} {σ : L2.St} {H : Hp} {s : Shared} {a C dx : Addr} {fs : List (Str × V)} (I : Inv X pins σ H s) (e : H a = some (.ins C dx fs)) : ∃ od, PySem.W.InstAt s.heap a (PySem.W.instObj C dx) C (some od) := by
  obtain ⟨mA, O, _, _, _, _⟩ := ins_get I.hok e
  obtain ⟨od, J, _⟩ := O.look
  exact ⟨od, J⟩
theorem cmpBack_of {Q : Value → Shared → Prop} {pins : List (Addr × Obj)} {σ : L2.St} {Q' : VK} {v : Value} {s : Shared} (h : EP X pins σ Q' v s) (k : EP X pins σ Q' v s → Q v s) : PySem.W.CmpBack Q v s := by
  obtain ⟨y, H, I, r, q⟩ := id h
  cases y with
  | non => cases r; exact k h
  | bl b => cases r; exact k h
  | int i => obtain ⟨t, rfl⟩ := r; exact k h
  | str i => obtain ⟨t, rfl⟩ := r; exact k h
  | byt i => obtain ⟨t, rfl⟩ := r; exact k h
  | flt i => obtain ⟨t, rfl⟩ := r; exact k h
  | ref a => cases r; exact k h
  | ty n => cases r; exact k h
def dOwn2 (C : Addr) (G : DFn) : D2 := fun x y m => match insOf m x, insOf m y with
  | some (C1, _, _), some (C2, _, _) => if C1 = C ∧ C2 = C then G [x, y] m else .stuck
  | _, _ => .stuck
def dNeg (C : Addr) (G : DFn) (t : DE) : DE := fun e m => (t e m).bind fun x m1 => match x with
  | .int i => .ok (.int (-i)) m1
  | _ => match insOf m1 x with
    | some (C1, _, _) => if C1 = C then G [x] m1 else .stuck
    | none => .stuck
def dNegI (t : DE) : DE := fun e m => (t e m).bind fun x m1 => match x with
  | .int i => .ok (.int (-i)) m1
  | _ => .stuck
theorem pd_negI (ha : PDE X o ta) : PDE X (.UnaryOp .USub o pos) (dNegI ta) := by
  refine pd_of (pe_un un_neg (mxE X o)) fun S r m σ Q sa re p => ?_
  refine ha S r m σ _ sa re (Post.bindI p fun d m1 v T st sa1 rd q => ?_)
  cases rd with
  | int i => exact ⟨i, rfl, Post.ok q (Stp.refl T) sa1 (.int _)⟩
  | _ => exact q.elim
end
end DL

namespace DL
open PySem PySem.Spec PyProof.Rows L2
variable [LamTab]
section
variable {X : Cx}
def gI2 (C : Int → Int → Bool) (k : Int → Int → D) : D2 := fun x y m => match x with
  | .int i => match y with
    | .int j => if C i j then .ok (k i j) m else .stuck
    | _ => .stuck
  | _ => .stuck
theorem od_i2 {f : Value → Value → Sem Value} {C : Int → Int → Bool} {C' : Int → Int → Prop} {k : Int → Int → D} {k' : Int → Int → V} (ho : OpR X f (rI C' k')) (hC : ∀ i j, C i j = true → C' i j) (hk : ∀ K i F a b, Rep K i F (k a b) (k' a b)) : OD X f (gI2 C k) := by
  refine od_of ho fun S m x y vx vy Q W sa rx ry p => ?_
  unfold gI2 at p
  cases rx with
  | int i =>
    cases ry with
    | int j =>
      dsimp only at p
      split at p
      · rename_i hc
        exact ⟨i, j, rfl, rfl, hC i j hc, Post.ok p (Stp.refl S) sa (hk _ _ _ i j)⟩
      · exact p.elim
    | _ => exact p.elim
  | _ => exact p.elim
def gI0 (k : Int → Int → D) : D2 := fun x y m => match x with
  | .int i => match y with
    | .int j => .ok (k i j) m
    | _ => .stuck
  | _ => .stuck
theorem od_i0 {f : Value → Value → Sem Value} {k : Int → Int → D} {k' : Int → Int → V} (ho : OpR X f (rI0 k')) (hk : ∀ K i F a b, Rep K i F (k a b) (k' a b)) : OD X f (gI0 k) := by
  refine od_of ho fun S m x y vx vy Q W sa rx ry p => ?_
  unfold gI0 at p
  cases rx with
  | int i =>
    cases ry with
    | int j => exact ⟨i, j, rfl, rfl, Post.ok p (Stp.refl S) sa (hk _ _ _ i j)⟩
    | _ => exact p.elim
  | _ => exact p.elim
abbrev gAdd : D2 := gI0 fun i j => .int (i + j)
abbrev gSub : D2 := gI0 fun i j => .int (i - j)
def mulOk (i j : Int) : Bool := decide (i.natAbs.log2 + j.natAbs.log2 < 1000000)
def divOk (_ j : Int) : Bool := decide (j ≠ 0 ∧ j.natAbs.log2 < 9000)
abbrev gMul : D2 := gI2 mulOk fun i j => .int (i * j)
abbrev gDiv : D2 := gI2 divOk fun i j => .int (i.fdiv j)
abbrev gMod : D2 := gI2 (fun _ j => decide (0 < j)) fun i j => .int (i % j)
def powOk (i j : Int) : Bool := decide (0 ≤ j ∧ j ≤ 1000000 ∧ i.natAbs < 2 ^ 64)
abbrev gPow : D2 := gI2 powOk fun i j => .int (i ^ j.toNat)
theorem od_add : OD X (binaryOp .Add) gAdd := od_i0 op_add fun _ _ _ _ _ => .int _
theorem od_sub : OD X (binaryOp .Sub) gSub := od_i0 op_sub fun _ _ _ _ _ => .int _
theorem od_mul : OD X (binaryOp .Mult) gMul := od_i2 op_mulW (fun i j h => (of_decide_eq_true h : i.natAbs.log2 + j.natAbs.log2 < 1000000)) fun _ _ _ _ _ => .int _
theorem op_fdivX : OpR X (binaryOp .FloorDiv) (rI (fun _ j => j ≠ 0 ∧ j.natAbs.log2 < 9000) fun i j => .int (i.fdiv j)) := opI fun i j _ _ _ _ _ hc q =>
  floordiv_int hc.1 q (.inl (PyProof.noPylong_of_log2 hc.2))
theorem od_div : OD X (binaryOp .FloorDiv) gDiv := od_i2 op_fdivX (fun _ _ h => of_decide_eq_true h) fun _ _ _ _ _ => .int _
theorem od_mod : OD X (binaryOp .Mod) gMod := od_i2 op_mod (fun _ _ h => of_decide_eq_true h) fun _ _ _ _ _ => .int _
theorem od_pow : OD X (binaryOp .Pow) gPow := od_i2 op_pow (fun i j h => (of_decide_eq_true h : 0 ≤ j ∧ j ≤ 1000000 ∧ i.natAbs < 2 ^ 64)) fun _ _ _ _ _ => .int _
abbrev gLt : D2 := gI0 fun i j => .bl (decide (i < j))
abbrev gGt : D2 := gI0 fun i j => .bl (decide (j < i))
abbrev gGe : D2 := gI0 fun i j => .bl (decide (j ≤ i))
theorem od_lt : OD X (compareOp .Lt) gLt := od_i0 op_lt fun _ _ _ _ _ => .bl _
theorem od_gt : OD X (compareOp .Gt) gGt := od_i0 op_gt fun _ _ _ _ _ => .bl _
theorem od_ge : OD X (compareOp .GtE) gGe := od_i0 op_ge fun _ _ _ _ _ => .bl _
def gAddS : D2 := fun x y m => match x with
  | .str a => match y with
    | .str b => if a.length + b.length ≤ sizeLine then .ok (.str (a ++ b)) m else .stuck
    | _ => .stuck
  | _ => .stuck
theorem od_addS : OD X (binaryOp .Add) gAddS := by
  refine od_of op_add_str fun S m x y vx vy Q W sa rx ry p => ?_
  unfold gAddS at p
  cases rx with
  | str i =>
    cases ry with
    | str j =>
      dsimp only at p
      split at p
      · rename_i hc
        exact ⟨i, j, rfl, rfl, hc, Post.ok p (Stp.refl S) sa (.str _)⟩
      · exact p.elim
    | _ => exact p.elim
  | _ => exact p.elim
def gIsN : D2 := fun x y m => match y with
  | .non => match x with
    | .non => .ok (.bl true) m
    | .val _ => .stuck
    | _ => .ok (.bl false) m
  | _ => .stuck
def gNotN : D2 := fun x y m => match y with
  | .non => match x with
    | .non => .ok (.bl false) m
    | .val _ => .stuck
    | _ => .ok (.bl true) m
  | _ => .stuck
theorem od_isN : OD X (compareOp .Is) gIsN := by
  refine od_of op_isN fun S m x y vx vy Q W sa rx ry p => ?_
  unfold gIsN at p
  cases ry with
  | non =>
    refine ⟨rfl, ?_⟩
    cases rx with
    | val v => exact p.elim
    | non => exact Post.ok p (Stp.refl S) sa (.bl true)
    | _ => exact Post.ok p (Stp.refl S) sa (.bl false)
  | _ => exact p.elim
theorem od_notN : OD X (compareOp .IsNot) gNotN := by
  refine od_of op_notN fun S m x y vx vy Q W sa rx ry p => ?_
  unfold gNotN at p
  cases ry with
  | non =>
    refine ⟨rfl, ?_⟩
    cases rx with
    | val v => exact p.elim
    | non => exact Post.ok p (Stp.refl S) sa (.bl false)
    | _ => exact Post.ok p (Stp.refl S) sa (.bl true)
  | _ => exact p.elim
mutual
def toPy : D → Option PyData
  | .non => some .none
  | .bl b => some (.bool b)
  | .int i => some (.int i)
  | .str x => some (.str x)
  | .lst ds => (toPys ds).map .list
  | .tup ds => (toPys ds).map .tuple
  | _ => none
def toPys : List D → Option (List PyData)
  | [] => some []
  | d :: ds => match toPy d with
    | some p => match toPys ds with
      | some ps => some (p :: ps)
      | none => none
    | none => none
end
mutual
theorem toPy_ok {K : PySem.W.Frag} {S : Wd} {m : Mu} (sa : Sta K S m) : ∀ (d : D) {v : V} {p : PyData}, Rep K S.i S.F d v → toPy d = some p → Dp K S.H v p
  | .non, _, _, r, h => by cases r; cases h; exact .non
  | .bl b, _, _, r, h => by cases r; cases h; exact .bl _
  | .int b, _, _, r, h => by cases r; cases h; exact .int _
  | .str b, _, _, r, h => by cases r; cases h; exact .str _
  | .lst ds, _, _, r, h => by
    cases r with
    | lst h1 h2 =>
      unfold toPy at h
      cases q : toPys ds with
      | none => rw [q] at h; cases h
      | some ps => rw [q] at h; cases h; exact .lst (SqL.ext' h1 sa.sub) (toPys_ok sa ds h2 q)
  | .tup ds, _, _, r, h => by
    cases r with
    | tup h1 h2 =>
      unfold toPy at h
      cases q : toPys ds with
      | none => rw [q] at h; cases h
      | some ps => rw [q] at h; cases h; exact .tup (SqT.ext' h1 sa.sub) (toPys_ok sa ds h2 q)
  | .obj _ _, _, _, r, h => by unfold toPy at h; cases h
  | .loc _, _, _, r, h => by unfold toPy at h; cases h
  | .val _, _, _, r, h => by unfold toPy at h; cases h
theorem toPys_ok {K : PySem.W.Frag} {S : Wd} {m : Mu} (sa : Sta K S m) : ∀ (ds : List D) {vs : List V} {ps : List PyData}, Reps K S.i S.F ds vs → toPys ds = some ps → DpAll K S.H vs ps
  | [], _, _, r, h => by cases r; cases h; exact .nil
  | d :: ds, _, _, r, h => by
    cases r with
    | cons h1 h2 =>
      unfold toPys at h
      cases q : toPy d with
      | none => rw [q] at h; cases h
      | some p =>
        cases q2 : toPys ds with
        | none => rw [q, q2] at h; cases h
        | some ps => rw [q, q2] at h; cases h; exact .cons (toPy_ok sa d h1 q) (toPys_ok sa ds h2 q2)
end
def thaw1 (m : Mu) (d : D) : D := match seqL m d with
  | some ds => .lst ds
  | none => d
def pyOf (m : Mu) (d : D) : Option PyData := toPy (thaw1 m d)
theorem pyOf_ok {K : PySem.W.Frag} {S : Wd} {m : Mu} {d : D} {v : V} {p : PyData} (sa : Sta K S m) (r : Rep K S.i S.F d v) (h : pyOf m d = some p) : Dp K S.H v p := by
  unfold pyOf thaw1 at h
  cases q : seqL m d with
  | none => rw [q] at h; exact toPy_ok sa d r h
  | some ds =>
    rw [q] at h
    obtain ⟨a, xs, rfl, h1, h2⟩ := seqL_ok sa r q
    dsimp only at h
    unfold toPy at h
    cases q2 : toPys ds with
    | none => rw [q2] at h; cases h
    | some ps => rw [q2] at h; cases h; exact .lst h1 (toPys_ok sa ds h2 q2)
def gEqD (neg : Bool) : D2 := fun x y m => match pyOf m x, pyOf m y with
  | some d, some e => if SeqAt.shaped d && SeqAt.shaped e then .ok (.bl (neg ^^ PyData.eqv d e)) m else .stuck
  | _, _ => .stuck
theorem od_eqD (hu : X.A.units + 64 < cLine) : OD X (compareOp .Eq) (gEqD false) := by
  refine od_of (op_eqD hu) fun S m x y vx vy Q W sa rx ry p => ?_
  unfold gEqD at p
  split at p
  · rename_i d e e1 e2
    split at p
    · rename_i hs
      obtain ⟨h1, h2⟩ := Bool.and_eq_true_iff.mp hs
      refine ⟨d, e, pyOf_ok sa rx e1, pyOf_ok sa ry e2, h1, h2, ?_⟩
      rw [Bool.false_xor] at p
      exact Post.ok p (Stp.refl S) sa (.bl _)
    · exact p.elim
  · exact p.elim
theorem od_neD (hu : X.A.units + 64 < cLine) : OD X (compareOp .NotEq) (gEqD true) := by
  refine od_of (op_neD hu) fun S m x y vx vy Q W sa rx ry p => ?_
  unfold gEqD at p
  split at p
  · rename_i d e e1 e2
    split at p
    · rename_i hs
      obtain ⟨h1, h2⟩ := Bool.and_eq_true_iff.mp hs
      refine ⟨d, e, pyOf_ok sa rx e1, pyOf_ok sa ry e2, h1, h2, ?_⟩
      rw [Bool.true_xor] at p
      exact Post.ok p (Stp.refl S) sa (.bl _)
    · exact p.elim
  · exact p.elim
def scEq : D → D → Option Bool
  | .non, .non => some true
  | .int i, .int j => some (decide (i = j))
  | .bl i, .bl j => some (i == j)
  | .str i, .str j => some (decide (i = j))
  | .non, .int _ => some false
  | .int _, .non => some false
  | .non, .bl _ => some false
  | .bl _, .non => some false
  | .non, .str _ => some false
  | .str _, .non => some false
  | .int _, .str _ => some false
  | .str _, .int _ => some false
  | .bl _, .str _ => some false
  | .str _, .bl _ => some false
  | _, _ => none
theorem scEq_ok {K : PySem.W.Frag} {i : List Addr} {F : Hp} {x y : D} {vx vy : V} {b : Bool} (rx : Rep K i F x vx) (ry : Rep K i F y vy) (h : scEq x y = some b) : scal vx vy = true ∧ decide (vx = vy) = b := by
  cases rx <;> cases ry <;> first
    | (cases h; exact ⟨rfl, rfl⟩)
    | (cases h; refine ⟨rfl, ?_⟩; first | exact dec_bl | simp)
    | (simp [scEq] at h)
def gEqS (neg : Bool) : D2 := fun x y m => match scEq x y with
  | some b => .ok (.bl (neg ^^ b)) m
  | none => .stuck
theorem od_eqS : OD X (compareOp .Eq) (gEqS false) := by
  refine od_of op_eq fun S m x y vx vy Q W sa rx ry p => ?_
  unfold gEqS at p
  split at p
  · rename_i b e
    obtain ⟨h1, h2⟩ := scEq_ok rx ry e
    refine ⟨h1, ?_⟩
    rw [h2]
    rw [Bool.false_xor] at p
    exact Post.ok p (Stp.refl S) sa (.bl _)
  · exact p.elim
theorem od_neS : OD X (compareOp .NotEq) (gEqS true) := by
  refine od_of op_ne fun S m x y vx vy Q W sa rx ry p => ?_
  unfold gEqS at p
  split at p
  · rename_i b e
    obtain ⟨h1, h2⟩ := scEq_ok rx ry e
    refine ⟨h1, ?_⟩
    rw [h2]
    rw [Bool.true_xor] at p
    exact Post.ok p (Stp.refl S) sa (.bl _)
  · exact p.elim
def gEq : D2 := orD (gEqS false) (gEqD false)
def gNe : D2 := orD (gEqS true) (gEqD true)
theorem od_eq (hu : X.A.units + 64 < cLine) : OD X (compareOp .Eq) gEq := od_or od_eqS (od_eqD hu)
theorem od_ne (hu : X.A.units + 64 < cLine) : OD X (compareOp .NotEq) gNe := od_or od_neS (od_neD hu)
def toV : D → Option V
  | .non => some .non
  | .bl b => some (.bl b)
  | .int b => some (.int b)
  | .str b => some (.str b)
  | _ => none
def toVs : List D → Option (List V)
  | [] => some []
  | d :: ds => match toV d with
    | some v => match toVs ds with
      | some vs => some (v :: vs)
      | none => none
    | none => none
theorem toV_ok {K : PySem.W.Frag} {i : List Addr} {F : Hp} {x : D} {vx v : V} (rx : Rep K i F x vx) (h : toV x = some v) : vx = v ∧ flatV v = true := by
  cases rx <;> first | (cases h; exact ⟨rfl, rfl⟩) | (simp [toV] at h)
theorem toVs_ok {K : PySem.W.Frag} {i : List Addr} {F : Hp} : ∀ {xs : List D} {vx vs : List V}, Reps K i F xs vx → toVs xs = some vs → vx = vs ∧ vs.all flatV = true
  | [], _, _, r, h => by cases r; cases h; exact ⟨rfl, rfl⟩
  | d :: ds, _, _, r, h => by
    cases r with
    | cons h1 h2 =>
      unfold toVs at h
      cases q : toV d with
      | none => rw [q] at h; cases h
      | some p =>
        cases q2 : toVs ds with
        | none => rw [q, q2] at h; cases h
        | some ps =>
          rw [q, q2] at h; cases h
          obtain ⟨e1, e2⟩ := toV_ok h1 q
          obtain ⟨e3, e4⟩ := toVs_ok h2 q2
          subst e1 e3
          exact ⟨rfl, by rw [List.all_cons, e2, e4]; rfl⟩
def seqA (m : Mu) (d : D) : Option (List D) := match seqL m d with
  | some ds => some ds
  | none => seqT d
theorem seqA_ok {K : PySem.W.Frag} {S : Wd} {m : Mu} {d : D} {v : V} {ds : List D} (sa : Sta K S m) (r : Rep K S.i S.F d v) (h : seqA m d = some ds) : ∃ a xs, v = .ref a ∧ (SqL K S.H a xs ∨ SqT K S.H a xs) ∧ Reps K S.i S.F ds xs := by
  unfold seqA at h
  split at h
  · rename_i e
    cases h
    obtain ⟨a, xs, h1, h2, h3⟩ := seqL_ok sa r e
    exact ⟨a, xs, h1, .inl h2, h3⟩
  · obtain ⟨a, xs, h1, h2, h3⟩ := seqT_ok sa r h
    exact ⟨a, xs, h1, .inr h2, h3⟩
def gInQ (neg : Bool) : D2 := fun x y m => match toV x, (seqA m y).bind toVs with
  | some v, some vs => .ok (.bl (neg ^^ inV v vs)) m
  | _, _ => .stuck
theorem gInQ_ok {neg : Bool} {K : PySem.W.Frag} {S : Wd} {m : Mu} {x y : D} {vx vy : V} {Q : VK} {W : XK} (sa : Sta K S m) (rx : Rep K S.i S.F x vx) (ry : Rep K S.i S.F y vy) (p : PostD K S (gInQ neg x y m) Q W) : rIn K neg vx vy S.H Q := by
  unfold gInQ at p
  split at p
  · rename_i v vs e1 e2
    obtain ⟨h1, h2⟩ := toV_ok rx e1
    subst h1
    cases q : seqA m y with
    | none => rw [q] at e2; cases e2
    | some ds =>
      rw [q] at e2
      obtain ⟨a, xs, h3, h4, h5⟩ := seqA_ok sa ry q
      obtain ⟨h6, h7⟩ := toVs_ok h5 e2
      subst h6
      refine ⟨a, xs, h3, h4, h2, h7, ?_⟩
      cases neg with
      | false => rw [Bool.false_xor] at p; exact Post.ok p (Stp.refl S) sa (.bl _)
      | true => rw [Bool.true_xor] at p; exact Post.ok p (Stp.refl S) sa (.bl _)
  · exact p.elim
theorem od_inQ : OD X (compareOp .In) (gInQ false) := od_of op_in_seq fun S m x y vx vy Q W sa rx ry p => gInQ_ok sa rx ry p
def occurs (i j : Str) : Bool := !(Builtin.Str.occurrences j i 0 j.length 1).isEmpty
def gInS (neg : Bool) : D2 := fun x y m => match x with
  | .str a => match y with
    | .str b => .ok (.bl (neg ^^ occurs a b)) m
    | _ => .stuck
  | _ => .stuck
theorem od_inS : OD X (compareOp .In) (gInS false) := by
  refine od_of op_in_str fun S m x y vx vy Q W sa rx ry p => ?_
  unfold gInS at p
  cases rx with
  | str i =>
    cases ry with
    | str j =>
      dsimp only at p
      rw [Bool.false_xor] at p
      exact ⟨i, j, rfl, rfl, Post.ok p (Stp.refl S) sa (.bl _)⟩
    | _ => exact p.elim
  | _ => exact p.elim
abbrev gIn : D2 := orD (gInS false) (gInQ false)
theorem od_in : OD X (compareOp .In) gIn := od_or od_inS od_inQ
def OC (X : Cx) (f : Value) (g : DFn) : Prop :=
  ∀ (pins : List (Addr × Obj)) (s : Shared) (σ : L2.St) (S : Wd) (m : Mu) (ds : List D) (xs : List V) (us : List Value) (Q : VK), Sta X.K S m → Reps X.K S.i S.F ds xs → Vals xs us → Inv X pins σ S.H s →
    PostD X.K S (g ds m) Q (fun c d H => Fly X c d σ H) → wpAny (model X.prog X.w) X.A (call f us) (EP X pins σ Q) X.xe s
theorem oc_of {f : Value} {g : DFn} {r : List V → Hp → VK → Prop} (ho : CallR X f r) (k : ∀ (S : Wd) (m : Mu) (ds : List D) (xs : List V) (Q : VK) (W : XK), Sta X.K S m → Reps X.K S.i S.F ds xs → PostD X.K S (g ds m) Q W → r xs S.H Q) : OC X f g :=
  fun pins s σ S m ds xs us Q sa rs rv I p => ho pins s σ S.H xs us Q I rv (k S m ds xs Q _ sa rs p)
def orF (f g : DFn) : DFn := fun ds m => match f ds m with
  | .stuck => g ds m
  | r => r
variable {x : Str} {p pos : Pos} {e : Expr} {es : List Expr} {t : DA} {id T : String} {g : DFn}
theorem pd_bc (ho : OC X (.builtin id) g) (hm : X.mg x = none) (hv : bootBuiltins x = some (.builtin id)) (ha : PDA X (e :: es) t) (hg : Gl X x := by rfl) (hn : x ≠ "__name__" := by decide) (hdb : (x == ("__debug__" : Str)) = false := by decide)
    (he : starEach (e :: es) X.env = (false, eval e X.env) :: starEach es X.env := by exact se_cons _ _ _ rfl) (hpl : (backTo pos (starEach es X.env)).any (·.1) = false := by exact se_any _ _ _ rfl) : PDE X (.Call (.Name x p) (e :: es) [] pos) (dFun g t) := by
  intro S r m σ Q sa re q pins s I
  refine wpAny_Call_Name_kw (ld_blt I hg hm hv ?_ hn hdb)
  refine PyProof.Rows.callWith_builtin1 (thn (ha.run sa re q I pos) ?_) he hpl
  rintro us s1 ⟨xs, ds, m1, T, st, sa1, rds, rv, I1, q1⟩
  exact ho pins s1 σ T m1 ds xs us Q sa1 rds rv I1 q1
theorem pd_bt (ho : OC X (.type T) g) (hm : X.mg x = none) (hv : bootBuiltins x = some (.type T)) (ha : PDA X (e :: es) t) (hg : Gl X x := by rfl) (hn : x ≠ "__name__" := by decide) (hdb : (x == ("__debug__" : Str)) = false := by decide)
    (he : starEach (e :: es) X.env = (false, eval e X.env) :: starEach es X.env := by exact se_cons _ _ _ rfl) (hpl : (backTo pos (starEach es X.env)).any (·.1) = false := by exact se_any _ _ _ rfl) : PDE X (.Call (.Name x p) (e :: es) [] pos) (dFun g t) := by
  intro S r m σ Q sa re q pins s I
  refine wpAny_Call_Name_kw (ld_blt I hg hm hv ?_ hn hdb)
  refine PyProof.Rows.callWith_type1 (thn (ha.run sa re q I pos) ?_) he hpl
  rintro us s1 ⟨xs, ds, m1, T, st, sa1, rds, rv, I1, q1⟩
  exact ho pins s1 σ T m1 ds xs us Q sa1 rds rv I1 q1
theorem reps1 {K : PySem.W.Frag} {i : List Addr} {F : Hp} {d : D} {xs : List V} (r : Reps K i F [d] xs) : ∃ v, xs = [v] ∧ Rep K i F d v := by
  cases r with
  | cons h r => cases r; exact ⟨_, rfl, h⟩
theorem reps2 {K : PySem.W.Frag} {i : List Addr} {F : Hp} {d e : D} {xs : List V} (r : Reps K i F [d, e] xs) : ∃ v w, xs = [v, w] ∧ Rep K i F d v ∧ Rep K i F e w := by
  cases r with
  | cons h r => obtain ⟨w, rfl, h2⟩ := reps1 r; exact ⟨_, w, rfl, h, h2⟩
def gAbs : DFn := fun ds m => match ds with
  | [.int i] => .ok (.int (if i < 0 then -i else i)) m
  | _ => .stuck
theorem oc_abs : OC X (.builtin "abs") gAbs := by
  refine oc_of call_abs fun S m ds xs Q W sa rs p => ?_
  unfold gAbs at p
  split at p
  · obtain ⟨v, rfl, r⟩ := reps1 rs
    cases r
    exact ⟨_, rfl, Post.ok p (Stp.refl S) sa (.int _)⟩
  · exact p.elim
def gInt : DFn := fun ds m => match ds with
  | [.int i] => .ok (.int i) m
  | [.bl b] => .ok (.int (if b then 1 else 0)) m
  | _ => .stuck
theorem oc_int : OC X (.type "int") gInt := by
  refine oc_of call_int1 fun S m ds xs Q W sa rs p => ?_
  unfold gInt at p
  split at p
  · obtain ⟨v, rfl, r⟩ := reps1 rs
    cases r
    exact .inl ⟨_, rfl, Post.ok p (Stp.refl S) sa (.int _)⟩
  · obtain ⟨v, rfl, r⟩ := reps1 rs
    cases r
    exact .inr ⟨_, rfl, Post.ok p (Stp.refl S) sa (.int _)⟩
  · exact p.elim
def gBool : DFn := fun ds m => match ds with
  | [.int i] => .ok (.bl (i != 0)) m
  | [.bl b] => .ok (.bl b) m
  | _ => .stuck
def gMin2 : DFn := fun ds m => match ds with
  | [.int i, .int j] => .ok (.int (if j < i then j else i)) m
  | _ => .stuck
def gMax2 : DFn := fun ds m => match ds with
  | [.int i, .int j] => .ok (.int (if j > i then j else i)) m
  | _ => .stuck
def gStrI : DFn := fun ds m => match ds with
  | [.int i] => if i.natAbs.log2 < 1920 then .ok (.str (toString i)) m else .stuck
  | _ => .stuck
theorem oc_strI : OC X (.type "str") gStrI := by
  refine oc_of call_str_int fun S m ds xs Q W sa rs p => ?_
  unfold gStrI at p
  split at p
  · split at p
    · rename_i h
      obtain ⟨v, rfl, r⟩ := reps1 rs
      cases r
      exact ⟨_, rfl, h, Post.ok p (Stp.refl S) sa (.str _)⟩
    · exact p.elim
  · exact p.elim
def gLen : DFn := fun ds m => match ds with
  | [.str x] => if x.length ≤ sizeLine then .ok (.int x.length) m else .stuck
  | [d] => match seqA m d with
    | some ds => .ok (.int ds.length) m
    | none => .stuck
  | _ => .stuck
theorem oc_len : OC X (.builtin "len") gLen := by
  refine oc_of (call_len_str.or call_len_seq) fun S m ds xs Q W sa rs p => ?_
  unfold gLen at p
  split at p
  · split at p
    · rename_i h
      obtain ⟨v, rfl, r⟩ := reps1 rs
      cases r
      exact .inl ⟨_, rfl, h, Post.ok p (Stp.refl S) sa (.int _)⟩
    · exact p.elim
  · split at p
    · rename_i ds' e
      obtain ⟨v, rfl, r⟩ := reps1 rs
      obtain ⟨a, ys, rfl, h1, h2⟩ := seqA_ok sa r e
      refine .inr ⟨a, ys, rfl, h1, ?_⟩
      rw [h2.len] at p
      exact Post.ok p (Stp.refl S) sa (.int _)
    · exact p.elim
  · exact p.elim
def gList : DFn := fun ds m => match ds with
  | [d] => match seqA m d with
    | some es => .ok (.lst es) m
    | none => .stuck
  | _ => .stuck
theorem oc_list : OC X (.type "list") gList := by
  refine oc_of call_list_of fun S m ds xs Q W sa rs p => ?_
  unfold gList at p
  split at p
  · split at p
    · rename_i es e
      obtain ⟨v, rfl, r⟩ := reps1 rs
      obtain ⟨a, ys, rfl, h1, h2⟩ := seqA_ok sa r e
      refine ⟨a, ys, rfl, h1, fun l hl => ?_⟩
      have st := Stp.new sa (o := .lst ys) hl
      exact p (.ref l) (S.new l (.lst ys)) st (sa.new hl) (.lst (.inl (.inl upd_same)) (h2.stp st))
    · exact p.elim
  · exact p.elim
def gListM : DFn := fun ds m => match ds with
  | [d] => match seqA m d with
    | some es => .ok (.loc m.length) (m ++ [.lst es])
    | none => .stuck
  | _ => .stuck
def toBs : List D → Option (List Bool)
  | [] => some []
  | .bl b :: ds => match toBs ds with
    | some bs => some (b :: bs)
    | none => none
  | _ => none
theorem toBs_ok {K : PySem.W.Frag} {i : List Addr} {F : Hp} : ∀ {ds : List D} {xs : List V} {bs : List Bool}, Reps K i F ds xs → toBs ds = some bs → xs = bs.map V.bl
  | [], _, _, r, h => by cases r; cases h; rfl
  | d :: ds, _, _, r, h => by
    cases r with
    | cons h1 h2 =>
      cases h1 with
      | bl b =>
        unfold toBs at h
        cases q : toBs ds with
        | none => rw [q] at h; cases h
        | some bs => rw [q] at h; cases h; rw [toBs_ok h2 q]; rfl
      | _ => simp [toBs] at h
def gAll : DFn := fun ds m => match ds with
  | [d] => match (seqL m d).bind toBs with
    | some bs => .ok (.bl (bs.all _root_.id)) m
    | none => .stuck
  | _ => .stuck
def gAny : DFn := fun ds m => match ds with
  | [d] => match (seqL m d).bind toBs with
    | some bs => .ok (.bl (bs.any _root_.id)) m
    | none => .stuck
  | _ => .stuck
theorem oc_all (hc : X.calm = true) : OC X (.builtin "all") gAll := by
  refine oc_of (cr_all hc) fun S m ds xs Q W sa rs p => ?_
  unfold gAll at p
  split at p
  · rename_i d
    cases q : seqL m d with
    | none => rw [q] at p; exact (show False from p).elim
    | some es =>
      rw [q] at p
      cases q2 : toBs es with
      | none => rw [show (some es).bind toBs = toBs es from rfl, q2] at p; exact (show False from p).elim
      | some bs =>
        rw [show (some es).bind toBs = toBs es from rfl, q2] at p
        obtain ⟨v, rfl, r⟩ := reps1 rs
        obtain ⟨a, ys, rfl, h1, h2⟩ := seqL_ok sa r q
        have := toBs_ok h2 q2
        subst this
        exact ⟨a, bs, rfl, h1, Post.ok p (Stp.refl S) sa (.bl _)⟩
  · exact p.elim
def toIs : List D → Option (List Int)
  | [] => some []
  | .int b :: ds => match toIs ds with
    | some bs => some (b :: bs)
    | none => none
  | _ => none
def minI : List Int → Int
  | [] => 0
  | x :: xs => xs.foldl min x
def maxI : List Int → Int
  | [] => 0
  | x :: xs => xs.foldl max x
end
end DL

namespace DL
open PySem PySem.Spec PyProof.Rows L2
variable [LamTab]
section
variable {X : Cx}
def gIx : D2 := fun x i m => match i with
  | .int i => match x with
    | .str z => if z.length ≤ sizeLine then (match atI z.cps.toList i with
      | some c => .ok (.str ⟨#[c]⟩) m
      | none => .stuck) else .stuck
    | x => match seqA m x with
      | some ds => match atI ds i with
        | some d => .ok d m
        | none => .stuck
      | none => .stuck
  | _ => .stuck
theorem atI_reps {K : PySem.W.Frag} {ι : List Addr} {F : Hp} {ds : List D} {xs : List V} {i : Int} {d : D} (r : Reps K ι F ds xs) (h : atI ds i = some d) : ∃ v, atI xs i = some v ∧ Rep K ι F d v := by
  unfold atI at h ⊢
  rw [← r.len]
  cases q : ixN ds.length i with
  | none => rw [q] at h; cases h
  | some j => rw [q] at h; exact r.get h
variable {a b e : Expr} {es : List Expr} {ta tb : DE} {t : DA} {pos : Pos}
theorem pd_ix (ha : PDE X a ta) (hb : PDE X b tb) (hs : PlainIx b := by exact fun _ _ => rfl) : PDE X (.Subscript a b pos) (dBin gIx ta tb) := by
  intro S r m σ Q sa re p pins s I
  refine Subscript_ (thn (ha.run sa re p I) ?_)
  rintro v s1 ⟨x, d, m1, T, st, sa1, rd, r1, I1, q⟩
  refine thn (hb.run sa1 (re.stp st) q I1) ?_
  rintro u s2 ⟨y, d', m2, U, st2, sa2, rd2, r2, I2, q2⟩
  refine ix_seq a b pins s2 σ U.H x y v u Q I2 r1 r2 ?_ (hs _ _)
  unfold gIx at q2
  split at q2
  · cases rd2
    split at q2
    · cases (rd.stp st2)
      split at q2
      · rename_i hz
        split at q2
        · rename_i c ec
          exact .inr (.inr ⟨_, _, c, rfl, rfl, hz, ec, Post.ok q2 (Stp.refl U) sa2 (.str _)⟩)
        · exact q2.elim
      · exact q2.elim
    · split at q2
      · rename_i ds e1
        split at q2
        · rename_i dd e2
          obtain ⟨p, xs, rfl, h1, h2⟩ := seqA_ok sa2 (rd.stp st2) e1
          obtain ⟨vv, h3, h4⟩ := atI_reps h2 e2
          rcases h1 with h1 | h1
          · exact .inl ⟨p, xs, _, vv, rfl, rfl, h1, h3, Post.ok q2 (Stp.refl U) sa2 h4⟩
          · exact .inr (.inl ⟨p, xs, _, vv, rfl, rfl, h1, h3, Post.ok q2 (Stp.refl U) sa2 h4⟩)
        · exact q2.elim
      · exact q2.elim
  · exact q2.elim
abbrev DO := En → Mu → Res (Option Int)
abbrev RO : Wd → Option Int → Option Int → Prop := fun _ a b => a = b
def PDO (X : Cx) (e : Option Expr) (t : DO) : Prop := ∃ u : TO, PO X e u ∧ ∀ S r m σ Q, Sta X.K S m → RelE X.K S r σ → Post RO X.K S (t r m) Q (fun c d H => Fly X c d σ H) → u σ S.H Q
def dNoPart : DO := fun _ m => .ok none m
def dPart (t : DE) : DO := fun e m => (t e m).bind fun d m1 => match d with
  | .int i => .ok (some i) m1
  | _ => .stuck
theorem pdo_none : PDO X none dNoPart := ⟨_, po_none, fun S r m σ Q sa re p => Post.ok p (Stp.refl S) sa rfl⟩
theorem pdo_some (h : PDE X e ta) : PDO X (some e) (dPart ta) := ⟨_, po_some (mxE X e), fun S r m σ Q sa re p => by
  refine h S r m σ _ sa re (Post.bindI p fun d m1 v T st sa1 rd q => ?_)
  cases rd with
  | int i => exact ⟨i, rfl, Post.ok q (Stp.refl T) sa1 rfl⟩
  | _ => exact q.elim⟩
def cutD (xs : List D) (lo hi : Option Int) : List D := (xs.drop (HT.sIx xs.length 0 lo)).take (HT.sIx xs.length xs.length hi - HT.sIx xs.length 0 lo)
theorem cut_reps {K : PySem.W.Frag} {ι : List Addr} {F : Hp} {ds : List D} {xs : List V} (r : Reps K ι F ds xs) (lo hi : Option Int) : Reps K ι F (cutD ds lo hi) (cutV xs lo hi) := by
  unfold cutD cutV
  rw [r.len]
  exact (r.drop _).take _
def dSl (t : DE) (lo hi : DO) : DE := fun e m => (t e m).bind fun d m1 => (lo e m1).bind fun l m2 => (hi e m2).bind fun h m3 => match seqL m3 d with
  | some ds => .ok (.lst (cutD ds l h)) m3
  | none => .stuck
theorem pd_sl {lo hi : Option Expr} {tl th : DO} {p2 : Pos} (ha : PDE X a ta) (hl : PDO X lo tl) (hh : PDO X hi th) : PDE X (.Subscript a (.Slice lo hi none p2) pos) (dSl ta tl th) := by
  obtain ⟨ul, hl1, hl2⟩ := hl
  obtain ⟨uh, hh1, hh2⟩ := hh
  refine pd_of (pe_slice sl_list (mxE X a) hl1 hh1) fun S r m σ Q sa re p => ?_
  refine ha S r m σ _ sa re (Post.bindI p fun d m1 v T st sa1 rd q => ?_)
  refine hl2 T r m1 σ _ sa1 (re.stp st) (Post.bindI q fun l m2 l' U st2 sa2 rl q2 => ?_)
  have rl : l = l' := rl
  subst rl
  refine hh2 U r m2 σ _ sa2 ((re.stp st).stp st2) (Post.bindI q2 fun h m3 h' Y st3 sa3 rh q3 => ?_)
  have rh : h = h' := rh
  subst rh
  split at q3
  · rename_i ds e1
    obtain ⟨p, xs, rfl, h1, h2⟩ := seqL_ok sa3 ((rd.stp st2).stp st3) e1
    refine ⟨p, xs, rfl, h1, fun n hn => ?_⟩
    have st4 := Stp.new sa3 (o := .lst (cutV xs l h)) hn
    exact q3 (.ref n) (Y.new n (.lst (cutV xs l h))) st4 (sa3.new hn) (.lst (.inl (.inl upd_same)) ((cut_reps h2 l h).stp st4))
  · exact q3.elim
theorem RelE.start {K : PySem.W.Frag} {S : Wd} {e : En} {σ : L2.St} (r : RelE K S e σ) : RelE K S e σ := r
def dSeq (t u : DS) : DS := fun e m => match t e m with
  | .nx e1 m1 => u e1 m1
  | r => r
def dSkip : DS := fun e m => .nx e m
variable {st : Stmt} {rest sts stt : List Stmt} {u w : DS} {tt : DT}
theorem pds_nil : PDSs X [] dSkip := fun S r m σ N sa re p pins s I => (pss_nil (X := X)).run pins s σ S.H N I (p σ S (Stp.refl S) sa re)
theorem pds_cons (h1 : PDS X st u) (h2 : PDSs X rest w) : PDSs X (st :: rest) (dSeq u w) := by
  intro S r m σ N sa re p pins s I
  refine (pss_cons (mxS X st) (mxSs X rest)).run pins s σ S.H N I ?_
  refine h1 S r m σ _ sa re ?_
  unfold dSeq at p
  cases q : u r m with
  | nx e1 m1 =>
    rw [q] at p
    exact fun σ1 T st1 sa1 re1 => h2 T e1 m1 σ1 N sa1 re1 (PostS.step st1 p)
  | stuck => rw [q] at p; exact p
  | rt d m1 => rw [q] at p; exact p
  | bk e1 m1 => rw [q] at p; exact p
  | ct e1 m1 => rw [q] at p; exact p
  | exc C fs e1 m1 => rw [q] at p; exact p
theorem pds_one (h1 : PDS X st u) : PDSs X [st] u := fun S r m σ N sa re p pins s I => (pss_one (mxS X st)).run pins s σ S.H N I (h1 S r m σ N sa re p)
def rsOf (e : En) (r : Res D) (k : D → Mu → RS) : RS := match r with
  | .stuck => .stuck
  | .ok d m => k d m
  | .exc C fs m => .exc C fs e m
theorem PDE.stm {S : Wd} {e : En} {r : Res D} {k : D → Mu → RS} {N : Ends} {σ : L2.St} (re : RelE X.K S e σ) (p : PostS X.K S (rsOf e r k) N (Fly X)) {Q : VK}
    (h : ∀ d m v T, Stp S T → Sta X.K T m → Rep X.K T.i T.F d v → PostS X.K T (k d m) N (Fly X) → Q v T.H) : PostD X.K S r Q (fun c d H => Fly X c d σ H) := by
  cases r with
  | stuck => exact p
  | ok d m => exact fun v T st sa rd => h d m v T st sa rd (PostS.step (r := k d m) st p)
  | exc C fs m => exact fun dd vs T st hn sa h1 h2 => p dd vs σ T st hn sa (re.stp st) h1 h2
def dRet (t : DE) : DS := fun e m => rsOf e (t e m) fun d m1 => .rt d m1
theorem pds_ret (ha : PDE X a ta) : PDS X (.Return (some a) pos) (dRet ta) :=
  ps_of (ps_ret (mxE X a)) fun S r m σ N sa re p => ha S r m σ _ sa re (PDE.stm re p fun d m1 v T st sa1 rd q => q v T (Stp.refl T) sa1 rd)
def dStuck : DS := fun _ _ => .stuck
def dDrop (t : DE) : DS := fun e m => rsOf e (t e m) fun _ m1 => .nx e m1
def dSet (i : Nat) (t : DE) : DS := fun e m => rsOf e (t e m) fun d m1 => .nx (e.set i (some d)) m1
theorem pds_set {i : Nat} {x : Str} {pos' : Pos} (ha : PDE X a ta) (hN : X.N.Nodup) (hi : X.N[i]? = some x := by rfl) (hx : Loc X.env.scope x := by first | exact Or.inl rfl | exact Or.inr rfl) (hs : swapsWith a (some (.Name x pos')) pos.line X.env = pure false := by rfl)
    (hf : X.fn x = true ∨ X.env.scope.names.lookup x = some .local := by first | exact .inl rfl | exact .inr rfl | assumption) : PDS X (.Assign [.Name x pos'] a pos) (dSet i ta) :=
  ps_of (ps_set hN hi hx (mxE X a) hs hf) fun S r m σ N sa re p => ha S r m σ _ sa re (PDE.stm re p fun d m1 v T st sa1 rd q => q _ T (Stp.refl T) sa1 ((re.stp st).set i rd))
def rsOfB (e : En) (r : Res Bool) (k : Bool → Mu → RS) : RS := match r with
  | .stuck => .stuck
  | .ok d m => k d m
  | .exc C fs m => .exc C fs e m
theorem PDT.stm {S : Wd} {e : En} {r : Res Bool} {k : Bool → Mu → RS} {N : Ends} {σ : L2.St} (re : RelE X.K S e σ) (p : PostS X.K S (rsOfB e r k) N (Fly X)) {Q : Bool → Hp → Prop}
    (h : ∀ d m T, Stp S T → Sta X.K T m → PostS X.K T (k d m) N (Fly X) → Q d T.H) : PostB X.K S r Q (fun c d H => Fly X c d σ H) := by
  cases r with
  | stuck => exact p
  | ok d m =>
    intro v T st sa rd
    cases (show d = v from rd)
    exact h d m T st sa (PostS.step (r := k d m) st p)
  | exc C fs m => exact fun dd vs T st hn sa h1 h2 => p dd vs σ T st hn sa (re.stp st) h1 h2
def dIfS (t : DT) (u w : DS) : DS := fun e m => rsOfB e (t e m) fun b m1 => if b then u e m1 else w e m1
theorem pds_if {c : Expr} (hc : PDT X c tt) (h1 : PDSs X sts u) (h2 : PDSs X stt w) : PDS X (.If c sts stt pos) (dIfS tt u w) := by
  refine ps_of (ps_if (mxT X c) (mxSs X sts) (mxSs X stt)) fun S r m σ N sa re p => hc S r m σ _ sa re (PDT.stm re p fun d m1 T st sa1 q => ?_)
  cases d with
  | true => exact iteT (h1 T r m1 σ N sa1 (re.stp st) q)
  | false => exact iteF (h2 T r m1 σ N sa1 (re.stp st) q)
abbrev DG := D → En → Option En
def WG (X : Cx) (tg : Expr) : TG := fun v σ H Q => ∀ (pins : List (Addr × Obj)) (s : Shared) (u : Value), Inv X pins σ H s → RelV v u → wpAny (model X.prog X.w) X.A (assign tg X.env u) (fun _ s' => ∃ σ' H', Inv X pins σ' H' s' ∧ Q σ' H') X.xe s
def WGs (X : Cx) (ts : List Expr) : TGs := fun vs σ H Q => ∀ (pins : List (Addr × Obj)) (s : Shared) (us : List Value), Inv X pins σ H s → Vals vs us → wpAny (model X.prog X.w) X.A (assignInOrder ((assignEach ts X.env).map (·.2)) us) (fun _ s' => ∃ σ' H', Inv X pins σ' H' s' ∧ Q σ' H') X.xe s
theorem mxG (X : Cx) (e : Expr) : PG X e (WG X e) := ⟨fun pins s σ H v u Q I r h => h pins s u I r⟩
theorem mxGs (X : Cx) (e : List Expr) : PGs X e (WGs X e) := ⟨fun pins s σ H v u Q I r h => h pins s u I r⟩
def ButSl (sl : List Nat) (σ σ1 : L2.St) : Prop := ∀ vs : List Nat, (∀ i ∈ sl, i ∈ vs) → wipe σ1 vs = wipe σ vs
theorem wipe_set {σ : L2.St} {i : Nat} {x : Option V} : ∀ vs : List Nat, wipe (σ.set i x) vs = if i ∈ vs then wipe σ vs else (wipe σ vs).set i x
  | [] => by simp [wipe]
  | v :: vs => by
    have ih := wipe_set (σ := σ) (i := i) (x := x) vs
    unfold wipe
    rw [ih]
    by_cases hv : i ∈ vs
    · rw [if_pos hv, if_pos (List.mem_cons_of_mem _ hv)]
    · rw [if_neg hv]
      by_cases hi : i = v
      · subst hi
        rw [if_pos List.mem_cons_self, List.set_set]
      · rw [if_neg (by simp [hi, hv]), List.set_comm _ _ hi]
theorem butSl_set (σ : L2.St) (i : Nat) (x : Option V) : ButSl [i] σ (σ.set i x) := fun vs h => by rw [wipe_set, if_pos (h i (by simp))]
def PDG (X : Cx) (tg : Expr) (g : DG) (sl : List Nat) : Prop := ∀ S e m σ d v e1 (Q : L2.St → Hp → Prop), Sta X.K S m → RelE X.K S e σ → Rep X.K S.i S.F d v → g d e = some e1 → (∀ σ1, RelE X.K S e1 σ1 → ButSl sl σ σ1 → Q σ1 S.H) → WG X tg v σ S.H Q
def dName (i : Nat) : DG := fun d e => some (e.set i (some d))
theorem pdg_name (i : Nat) {x : Str} (hN : X.N.Nodup) (hi : X.N[i]? = some x := by rfl) (hx : Loc X.env.scope x := by first | exact Or.inl rfl | exact Or.inr rfl) (hf : X.fn x = true ∨ X.env.scope.names.lookup x = some .local := by first | exact .inl rfl | exact .inr rfl | assumption) : PDG X (.Name x pos) (dName i) [i] :=
  fun S e m σ d v e1 Q sa re rd h q pins s u I r => by
    cases h
    exact (pg_name hN hi hx hf).run pins s σ S.H v u Q I r (q _ (re.set i rd) (butSl_set σ i _))
def PDGs (X : Cx) (ts : List Expr) (g : List D → En → Option En) (sl : List Nat) : Prop := ∀ S e m σ ds vs e1 (Q : L2.St → Hp → Prop), Sta X.K S m → RelE X.K S e σ → Reps X.K S.i S.F ds vs → g ds e = some e1 → (∀ σ1, RelE X.K S e1 σ1 → ButSl sl σ σ1 → Q σ1 S.H) → WGs X ts vs σ S.H Q
def dGnil : List D → En → Option En := fun ds e => match ds with
  | [] => some e
  | _ => none
def dGcons (g : DG) (h : List D → En → Option En) : List D → En → Option En := fun ds e => match ds with
  | d :: r => (g d e).bind fun e1 => h r e1
  | [] => none
theorem pdgs_nil : PDGs X [] dGnil [] := fun S e m σ ds vs e1 Q sa re rd h q pins s us I r => by
  cases rd with
  | nil => cases h; exact (pgs_nil (X := X)).run pins s σ S.H [] us Q I r ⟨rfl, q σ re fun vs _ => rfl⟩
  | cons _ _ => cases h
theorem pdgs_cons {g : DG} {h : List D → En → Option En} {sl sl' : List Nat} (h1 : PDG X a g sl) (h2 : PDGs X es h sl') (hs : (assignEach (a :: es) X.env).map (·.2) = assign a X.env :: (assignEach es X.env).map (·.2) := by rfl) : PDGs X (a :: es) (dGcons g h) (sl ++ sl') := by
  intro S e m σ ds vs e1 Q sa re rd hh q pins s us I r
  cases rd with
  | nil => cases hh
  | @cons d v ds' vs' r1 r2 =>
    have hh : (g d e).bind (fun e1 => h ds' e1) = some e1 := hh
    cases q1 : g d e with
    | none => rw [q1] at hh; cases hh
    | some e2 =>
      rw [q1] at hh
      exact (pgs_cons (mxG X a) (mxGs X es) hs).run pins s σ S.H (v :: vs') us Q I r ⟨v, vs', rfl, h1 S e m σ d v e2 _ sa re r1 q1 fun σ1 re1 b1 => h2 S e2 m σ1 ds' vs' e1 _ sa re1 r2 hh fun σ2 re2 b2 => q σ2 re2 fun vs hv => (b2 vs fun i hi => hv i (List.mem_append_right _ hi)).trans (b1 vs fun i hi => hv i (List.mem_append_left _ hi))⟩
def dTupG (n : Nat) (g : List D → En → Option En) : DG := fun d e => match d with
  | .tup ds => if ds.length = n then g ds e else none
  | _ => none
theorem pdg_tup {n k : Nat} {g : List D → En → Option En} {sl : List Nat} (hc : X.calm = true) (h : PDGs X es g sl) (hn : (assignEach es X.env).length = n := by rfl) (hst : (assignEach es X.env).findIdx? (·.1) = none := by rfl) : PDG X (.Tuple es k pos) (dTupG n g) sl := by
  intro S e m σ d v e1 Q sa re rd hh q pins s u I r
  cases rd with
  | tup h1 h2 =>
    unfold dTupG at hh
    dsimp only at hh
    split at hh
    · rename_i hl
      exact (pg_tup hc (mxGs X es) hn hst).run pins s σ S.H _ u Q I r ⟨_, _, rfl, SqT.ext' h1 sa.sub, by rw [← h2.len]; exact hl, h S e m σ _ _ e1 Q sa re h2 hh q⟩
    · cases hh
  | _ => cases hh
def dAsg (t : DE) (g : DG) : DS := fun e m => rsOf e (t e m) fun d m1 => match g d e with
  | some e1 => .nx e1 m1
  | none => .stuck
theorem pds_asg {tg : Expr} {g : DG} {sl : List Nat} (ha : PDE X a ta) (hg : PDG X tg g sl) (hs : swapsWithSole [tg] a pos.line X.env = pure false := by rfl) (hw : swappedStores [tg] a X.env = pure none := by rfl)
    (h1 : (assignEach [tg] X.env).map (·.2) = [assign tg X.env] := by rfl) : PDS X (.Assign [tg] a pos) (dAsg ta g) := by
  refine ps_of (ps_asg (mxE X a) (mxG X tg) hs hw h1) fun S r m σ N sa re pp => ha S r m σ _ sa re (PDE.stm re pp fun d m1 v T st sa1 rd q => ?_)
  split at q
  · rename_i e1 h
    exact hg T r m1 σ d v e1 N.nx sa1 (re.stp st) rd h fun σ1 re1 _ => q σ1 T (Stp.refl T) sa1 re1
  · exact q.elim
def dPar (i j : Nat) (t : DA) : DS := fun e m => match t e m with
  | .ok [x, y] m1 => .nx ((e.set i (some x)).set j (some y)) m1
  | .exc C fs m1 => .exc C fs e m1
  | _ => .stuck
theorem pds_par {i j : Nat} {x y : Str} {px py pt : Pos} {kt k2 pt2} (ha : PDA X [a, b] t) (hc : X.calm = true) (hN : X.N.Nodup) (hw : swappedStores [.Tuple [.Name x px, .Name y py] kt pt] (.Tuple [a, b] k2 pt2) X.env = pure (some [x, y]) := by rfl) (hi : X.N[i]? = some x := by rfl) (hj : X.N[j]? = some y := by rfl) (hij : i ≠ j := by decide)
    (hx : X.env.scope.names.lookup x = some .local := by rfl) (hy : X.env.scope.names.lookup y = some .local := by rfl)
    (hs : swapsWithSole [.Tuple [.Name x px, .Name y py] kt pt] (.Tuple [a, b] k2 pt2) pos.line X.env = pure false := by rfl) :
    PDS X (.Assign [.Tuple [.Name x px, .Name y py] kt pt] (.Tuple [a, b] k2 pt2) pos) (dPar i j t) := by
  refine ps_of (ps_par hc hN hi hj hij hx hy (mxA X _) hw hs) fun S r m σ N sa re p => ha S r m σ _ sa re ?_
  unfold dPar at p
  cases q : t r m with
  | stuck => rw [q] at p; exact p
  | exc C fs m1 => rw [q] at p; exact fun dd vs T st hn sa1 h1 h2 => p dd vs σ T st hn sa1 (re.stp st) h1 h2
  | ok ds m1 =>
    rw [q] at p
    intro vs T st sa1 rds
    split at p
    · rename_i d1 d2 m2 heq
      cases heq
      obtain ⟨v, w, rfl, r1, r2⟩ := reps2 rds
      exact ⟨v, w, rfl, p _ T st sa1 (((re.stp st).set i r1).set j r2)⟩
    · rename_i heq; cases heq
    · exact p.elim
end
end DL

namespace DL
open PySem PySem.Spec PyProof.Rows L2
variable [LamTab]
def ItOk (K : PySem.W.Frag) (T : Wd) (J : It) (ds : List D) : Prop := ∀ (U : Wd) (m : Mu) (i : Nat), Stp T U → Sta K U m →
  (∀ d, ds[i]? = some d → J.go i U.H ∧ ∀ x H', J.yld i U.H x H' → ∃ Y : Wd, Y.H = H' ∧ Stp U Y ∧ Sta K Y m ∧ Rep K Y.i Y.F d x) ∧ (ds.length ≤ i → J.stop i U.H)
def PostI (K : PySem.W.Frag) (S : Wd) (r : Res (List D)) (R : It → Hp → Prop) (W : XK) : Prop := match r with
  | .stuck => False
  | .ok ds m => ∀ J T, Stp S T → Sta K T m → ItOk K T J ds → R J T.H
  | .exc C fs m => ∀ dd vs T, Stp S T → S.H dd = none → Sta K T m → T.H dd = some (.xd vs) → RepF K T.i T.F fs vs → W (.ref C) (some dd) T.H
def WI (X : Cx) (tg iter : Expr) : TI := fun σ H R => ∀ (pins : List (Addr × Obj)) (s : Shared), Inv X pins σ H s →
  wpAny (model X.prog X.w) X.A (eval iter X.env) (fun v s1 => wpAny (model X.prog X.w) X.A (pyIter v) (PIE X pins σ tg R) X.xe s1) X.xe s
theorem mxI (X : Cx) (tg iter : Expr) : PI X tg iter (WI X tg iter) := ⟨fun pins s σ H R I h => h pins s I⟩
def PDI (X : Cx) (tg iter : Expr) (t : DA) : Prop := ∀ S r m σ R, Sta X.K S m → RelE X.K S r σ → PostI X.K S (t r m) R (fun c d H => Fly X c d σ H) → WI X tg iter σ S.H R
theorem pdi_of {X : Cx} {tg iter : Expr} {u : TI} {t : DA} (h : PI X tg iter u) (k : ∀ S r m σ R, Sta X.K S m → RelE X.K S r σ → PostI X.K S (t r m) R (fun c d H => Fly X c d σ H) → u σ S.H R) : PDI X tg iter t :=
  fun S r m σ R sa re p pins s I => h.run pins s σ S.H R I (k S r m σ R sa re p)
theorem PostI.bindI {α β : Type} {R' : Wd → α → β → Prop} {K : PySem.W.Frag} {S : Wd} {r : Res α} {f : α → Mu → Res (List D)} {Q : It → Hp → Prop} {Q' : β → Hp → Prop} {W : XK} (h : PostI K S (r.bind f) Q W)
    (g : ∀ a m v T, Stp S T → Sta K T m → R' T a v → PostI K T (f a m) Q W → Q' v T.H) : Post R' K S r Q' W := by
  cases r with
  | stuck => exact h
  | ok a m =>
    intro v U s1 s2 s3
    refine g a m v U s1 s2 s3 ?_
    have h : PostI K S (f a m) Q W := h
    cases q : f a m with
    | stuck => rw [q] at h; exact h
    | ok ds m1 => rw [q] at h; exact fun J T st => h J T (s1.trans st)
    | exc C fs m1 => rw [q] at h; exact fun dd vs T st hn => h dd vs T (s1.trans st) (s1.old dd hn)
  | exc C fs m => exact h
section
variable {K : PySem.W.Frag} {T : Wd}
theorem frozen {m : Mu} {ds : List D} {v : V} (sa : Sta K T m) (r : Rep K T.i T.F (.lst ds) v) : ∃ a xs, v = .ref a ∧ Reps K T.i T.F ds xs ∧ ∀ U m', Stp T U → Sta K U m' → SqL K U.H a xs ∧ Reps K U.i U.F ds xs := by
  cases r with
  | lst h1 h2 => exact ⟨_, _, rfl, h2, fun U m' st sa' => ⟨SqL.ext' (SqL.ext' h1 st.ext) sa'.sub, h2.stp st⟩⟩
theorem frozenT {m : Mu} {ds : List D} {v : V} (sa : Sta K T m) (r : Rep K T.i T.F (.tup ds) v) : ∃ a xs, v = .ref a ∧ Reps K T.i T.F ds xs ∧ ∀ U m', Stp T U → Sta K U m' → SqT K U.H a xs ∧ Reps K U.i U.F ds xs := by
  cases r with
  | tup h1 h2 => exact ⟨_, _, rfl, h2, fun U m' st sa' => ⟨SqT.ext' (SqT.ext' h1 st.ext) sa'.sub, h2.stp st⟩⟩
end
section
variable {X : Cx} {tg a b : Expr} {es : List Expr} {ta tb : DE} {t : DA} {pos p tpos : Pos}
def dItL (t : DE) : DA := fun e m => (t e m).bind fun d m1 => match d with
  | .lst ds => .ok ds m1
  | _ => .stuck
theorem pdi_list (ha : PDE X a ta) : PDI X tg a (dItL ta) := by
  refine pdi_of (pi_list (mxE X a)) fun S r m σ R sa re p => ?_
  refine ha S r m σ _ sa re (PostI.bindI p fun d m1 v T st sa1 rd q => ?_)
  split at q
  · rename_i ds
    obtain ⟨a, xs, rfl, hr, k⟩ := frozen sa1 rd
    refine ⟨a, rfl, ⟨xs, (k T m1 (Stp.refl T) sa1).1⟩, q _ T (Stp.refl T) sa1 fun U m' i st' sa' => ⟨fun d hd => ?_, fun hl => ⟨xs, (k U m' st' sa').1, by rw [← hr.len]; exact hl⟩⟩⟩
    obtain ⟨v, hv, rv⟩ := (k U m' st' sa').2.get hd
    refine ⟨⟨xs, v, (k U m' st' sa').1, hv⟩, fun x H' hy => ⟨U, hy.1.symm, Stp.refl U, sa', ?_⟩⟩
    have := hy.2 xs (k U m' st' sa').1
    rw [hv] at this; cases this
    exact rv
  · exact q.elim
def dItT (t : DE) : DA := fun e m => (t e m).bind fun d m1 => match d with
  | .tup ds => .ok ds m1
  | _ => .stuck
def rngD (lo : Int) (n : Nat) : List D := (List.range n).map fun (k : Nat) => .int (lo + (k : Int))
theorem rng_get (lo : Int) (n i : Nat) (d : D) (h : (rngD lo n)[i]? = some d) : i < n ∧ d = .int (lo + (i : Int)) := by
  unfold rngD at h
  rw [List.getElem?_map] at h
  cases q : (List.range n)[i]? with
  | none => rw [q] at h; cases h
  | some k =>
    rw [q] at h; cases h
    obtain ⟨h1, h2⟩ := List.getElem?_eq_some_iff.mp q
    simp at h1 h2
    subst h2
    exact ⟨h1, rfl⟩
theorem rng_len (lo : Int) (n : Nat) : (rngD lo n).length = n := by simp [rngD]
theorem itr_ok {K : PySem.W.Frag} {T : Wd} (lo : Int) (n : Nat) : ItOk K T (Itr lo n) (rngD lo n) := fun U m i st sa => ⟨fun d hd => by
    obtain ⟨h1, rfl⟩ := rng_get lo n i d hd
    exact ⟨h1, fun x H' hy => ⟨U, hy.1.symm, Stp.refl U, sa, by rw [hy.2]; exact .int _⟩⟩, fun hl => by rw [rng_len] at hl; exact hl⟩
def dItR1 (t : DA) : DA := fun e m => (t e m).bind fun ds m1 => match ds with
  | [.int j] => if -(2 ^ 62) ≤ j ∧ j < 2 ^ 62 then .ok (rngD 0 j.toNat) m1 else .stuck
  | _ => .stuck
def dItR2 (t : DA) : DA := fun e m => (t e m).bind fun ds m1 => match ds with
  | [.int i, .int j] => if -(2 ^ 62) ≤ i ∧ i < 2 ^ 62 ∧ -(2 ^ 62) ≤ j ∧ j < 2 ^ 62 then .ok (rngD i (j - i).toNat) m1 else .stuck
  | _ => .stuck
theorem pdi_range1 (hm : X.mg "range" = none) (ha : PDA X [a] t) (hg : Gl X "range" := by rfl) (hs : starEach [a] X.env = [(false, eval a X.env)] := by rfl) : PDI X tg (.Call (.Name "range" p) [a] [] pos) (dItR1 t) := by
  refine pdi_of (pi_range1 hg hm (mxA X [a]) hs) fun S r m σ R sa re p => ?_
  refine ha S r m σ _ sa re (PostI.bindI p fun d m1 v T st sa1 rd q => ?_)
  split at q
  · split at q
    · rename_i h
      obtain ⟨w, rfl, hw⟩ := reps1 rd
      cases hw
      exact ⟨_, rfl, h.1, h.2, q _ T (Stp.refl T) sa1 (itr_ok 0 _)⟩
    · exact q.elim
  · exact q.elim
def dItE (t : DA) : DA := fun e m => (t e m).bind fun ds m1 => match ds with
  | [.lst es] => .ok ((List.range es.length).zipWith (fun k d => .tup [.int (k : Nat), d]) es) m1
  | _ => .stuck
def dItZ (t : DA) : DA := fun e m => (t e m).bind fun ds m1 => match ds with
  | [.lst xs, .lst ys] => .ok (xs.zipWith (fun x y => .tup [x, y]) ys) m1
  | [.tup xs, .tup ys] => .ok (xs.zipWith (fun x y => .tup [x, y]) ys) m1
  | _ => .stuck
theorem zip_get {xs ys : List D} {i : Nat} {d : D} (h : (xs.zipWith (fun x y => D.tup [x, y]) ys)[i]? = some d) : ∃ x y, xs[i]? = some x ∧ ys[i]? = some y ∧ d = .tup [x, y] := by
  rw [List.getElem?_zipWith] at h
  cases q : xs[i]? with
  | none => rw [q] at h; cases h
  | some k =>
    cases q2 : ys[i]? with
    | none => rw [q, q2] at h; cases h
    | some x => rw [q, q2] at h; cases h; exact ⟨k, x, rfl, rfl, rfl⟩
theorem pdi_zip {elts : List Expr} {kk : Nat} (hm : X.mg "zip" = none) (ha : PDA X [a, b] t) (hg : Gl X "zip" := by rfl) (hs : starEach [a, b] X.env = (false, eval a X.env) :: starEach [b] X.env := by rfl) (hpl : (backTo pos (starEach [b] X.env)).any (·.1) = false := by rfl) : PDI X (.Tuple elts kk tpos) (.Call (.Name "zip" p) [a, b] [] pos) (dItZ t) := by
  refine pdi_of (RZ.pi_zipA hg hm (mxA X [a, b]) hs hpl) fun S r m σ R sa re p => ?_
  refine ha S r m σ _ sa re (PostI.bindI p fun d m1 v T st sa1 rd q => ?_)
  split at q
  · obtain ⟨w, w2, rfl, hw, hw2⟩ := reps2 rd
    obtain ⟨a, xs, rfl, hr, k⟩ := frozen sa1 hw
    obtain ⟨b, ys, rfl, hr2, k2⟩ := frozen sa1 hw2
    refine ⟨a, b, xs, ys, rfl, .inl ⟨(k T m1 (Stp.refl T) sa1).1, (k2 T m1 (Stp.refl T) sa1).1, q _ T (Stp.refl T) sa1 fun U m' i st' sa' => ⟨fun d hd => ?_, fun hl => ⟨xs, ys, (k U m' st' sa').1, (k2 U m' st' sa').1, ?_⟩⟩⟩⟩
    · obtain ⟨x, y, hx, hy, rfl⟩ := zip_get hd
      obtain ⟨v, hv, rv⟩ := (k U m' st' sa').2.get hx
      obtain ⟨v2, hv2, rv2⟩ := (k2 U m' st' sa').2.get hy
      refine ⟨⟨xs, ys, v, v2, (k U m' st' sa').1, (k2 U m' st' sa').1, hv, hv2⟩, fun y H' hy => ?_⟩
      obtain ⟨n, z, z2, rfl, hn, rfl, hz, hz2⟩ := hy
      have hz' := hz xs (k U m' st' sa').1
      have hz2' := hz2 ys (k2 U m' st' sa').1
      rw [hv] at hz'; cases hz'
      rw [hv2] at hz2'; cases hz2'
      have st2 := Stp.new sa' (o := .tup [v, v2]) hn
      exact ⟨U.new n _, rfl, st2, sa'.new hn, .tup (.inl (.inl upd_same)) (.cons (rv.stp st2) (.cons (rv2.stp st2) .nil))⟩
    · rw [List.length_zipWith, hr.len, hr2.len] at hl
      omega
  · obtain ⟨w, w2, rfl, hw, hw2⟩ := reps2 rd
    obtain ⟨a, xs, rfl, hr, k⟩ := frozenT sa1 hw
    obtain ⟨b, ys, rfl, hr2, k2⟩ := frozenT sa1 hw2
    refine ⟨a, b, xs, ys, rfl, .inr ⟨(k T m1 (Stp.refl T) sa1).1, (k2 T m1 (Stp.refl T) sa1).1, q _ T (Stp.refl T) sa1 fun U m' i st' sa' => ⟨fun d hd => ?_, fun hl => ⟨xs, ys, (k U m' st' sa').1, (k2 U m' st' sa').1, ?_⟩⟩⟩⟩
    · obtain ⟨x, y, hx, hy, rfl⟩ := zip_get hd
      obtain ⟨v, hv, rv⟩ := (k U m' st' sa').2.get hx
      obtain ⟨v2, hv2, rv2⟩ := (k2 U m' st' sa').2.get hy
      refine ⟨⟨xs, ys, v, v2, (k U m' st' sa').1, (k2 U m' st' sa').1, hv, hv2⟩, fun y H' hy => ?_⟩
      obtain ⟨n, z, z2, rfl, hn, rfl, hz, hz2⟩ := hy
      have hz' := hz xs (k U m' st' sa').1
      have hz2' := hz2 ys (k2 U m' st' sa').1
      rw [hv] at hz'; cases hz'
      rw [hv2] at hz2'; cases hz2'
      have st2 := Stp.new sa' (o := .tup [v, v2]) hn
      exact ⟨U.new n _, rfl, st2, sa'.new hn, .tup (.inl (.inl upd_same)) (.cons (rv.stp st2) (.cons (rv2.stp st2) .nil))⟩
    · rw [List.length_zipWith, hr.len, hr2.len] at hl
      omega
  · exact q.elim
def dLoop (g : DG) (b : DS) : List D → En → Mu → RS
  | [], e, m => .nx e m
  | d :: ds, e, m => match g d e with
    | none => .stuck
    | some e1 => match b e1 m with
      | .nx e2 m2 => dLoop g b ds e2 m2
      | .ct e2 m2 => dLoop g b ds e2 m2
      | .bk e2 m2 => .nx e2 m2
      | .rt d m2 => .rt d m2
      | .exc C fs e2 m2 => .exc C fs e2 m2
      | .stuck => .stuck
def dFor (t : DA) (g : DG) (b : DS) : DS := fun e m => match t e m with
  | .ok ds m1 => dLoop g b ds e m1
  | .exc C fs m1 => .exc C fs e m1
  | .stuck => .stuck
theorem pds_for {iter : Expr} {body : List Stmt} {g : DG} {u : DS} {sl : List Nat} (hi : PDI X tg iter t) (hg : PDG X tg g sl) (hb : PDSs X body u) (hc : X.calm = true) (hp : PassesOwn (model X.prog X.w) X.A X.env X.xe)
    (hs : ∀ x, foldedSetIterable iter X.env x = pure x := by intro _; rfl) : PDS X (.For tg iter body [] pos) (dFor t g u) := by
  refine ps_of (ps_for hp hc (mxI X tg iter) (mxG X tg) (mxSs X body) hs) fun S r m σ N sa re p => hi S r m σ _ sa re ?_
  unfold dFor at p
  cases q : t r m with
  | stuck => rw [q] at p; exact p
  | exc C fs m1 => rw [q] at p; exact fun dd vs T st hn sa1 h1 h2 => p dd vs σ T st hn sa1 (re.stp st) h1 h2
  | ok ds m1 =>
    rw [q] at p
    intro J T st sa1 hJ
    refine ⟨fun i n σ' H' => n = ds.length - i ∧ i ≤ ds.length ∧ ∃ (U : Wd) (e : En) (m' : Mu), U.H = H' ∧ Stp T U ∧ Sta X.K U m' ∧ RelE X.K U e σ' ∧ PostS X.K U (dLoop g u (ds.drop i) e m') N (Fly X),
      ⟨ds.length, by simp, Nat.zero_le _, T, r, m1, rfl, Stp.refl T, sa1, re.stp st, PostS.step st p⟩, ?_⟩
    rintro i n σ' H' ⟨rfl, hi', U, e, m', rfl, stU, saU, reU, pU⟩
    by_cases hlt : i < ds.length
    · refine .inr ⟨((hJ U m' i stU saU).1 _ (List.getElem?_eq_getElem hlt)).1, fun σ2 H2 => i + 1 ≤ ds.length ∧ ∃ (U2 : Wd) (e2 : En) (m2 : Mu), U2.H = H2 ∧ Stp T U2 ∧ Sta X.K U2 m2 ∧ RelE X.K U2 e2 σ2 ∧ PostS X.K U2 (dLoop g u (ds.drop (i + 1)) e2 m2) N (Fly X),
        fun σ2 H2 h2 => ⟨ds.length - (i + 1), by omega, rfl, h2.1, h2.2⟩, fun x H2 hy => ?_⟩
      obtain ⟨Y, rfl, stY, saY, rdY⟩ := ((hJ U m' i stU saU).1 _ (List.getElem?_eq_getElem hlt)).2 x H2 hy
      rw [List.drop_eq_getElem_cons hlt] at pU
      have pY := PostS.step stY pU
      unfold dLoop at pY
      cases qg : g ds[i] e with
      | none => rw [qg] at pY; exact pY.elim
      | some e1 =>
        rw [qg] at pY
        refine hg Y e m' σ' ds[i] x e1 _ saY (reU.stp stY) rdY qg fun σ1 re1 _ => hb Y e1 m' σ1 _ saY re1 ?_
        have stT := stU.trans stY
        dsimp only at pY
        cases qb : u e1 m' with
        | stuck => rw [qb] at pY; exact pY.elim
        | nx e2 m2 => rw [qb] at pY; exact fun σ2 Z stZ saZ reZ => ⟨hlt, Z, e2, m2, rfl, stT.trans stZ, saZ, reZ, PostS.step stZ pY⟩
        | ct e2 m2 => rw [qb] at pY; exact fun σ2 Z stZ saZ reZ => ⟨hlt, Z, e2, m2, rfl, stT.trans stZ, saZ, reZ, PostS.step stZ pY⟩
        | bk e2 m2 => rw [qb] at pY; exact pY
        | rt d m2 => rw [qb] at pY; exact pY
        | exc C fs e2 m2 => rw [qb] at pY; exact pY
    · have e : i = ds.length := by omega
      subst e
      rw [List.drop_length] at pU
      exact .inl ⟨(hJ U m' _ stU saU).2 (Nat.le_refl _), pU σ' U (Stp.refl U) saU reU⟩
def whileF (c : DT) (b : DS) : Nat → En → Mu → RS
  | 0, _, _ => .stuck
  | n + 1, e, m => match c e m with
    | .stuck => .stuck
    | .exc C fs m1 => .exc C fs e m1
    | .ok false m1 => .nx e m1
    | .ok true m1 => match b e m1 with
      | .nx e2 m2 => whileF c b n e2 m2
      | .ct e2 m2 => whileF c b n e2 m2
      | .bk e2 m2 => .nx e2 m2
      | .rt d m2 => .rt d m2
      | .exc C fs e2 m2 => .exc C fs e2 m2
      | .stuck => .stuck
open Classical in
noncomputable def dWhile (c : DT) (b : DS) : DS := fun e m => if h : ∃ n, whileF c b n e m ≠ .stuck then whileF c b h.choose e m else .stuck
theorem whileF_more (c : DT) (b : DS) : ∀ (n k : Nat) (e : En) (m : Mu), whileF c b n e m ≠ .stuck → whileF c b (n + k) e m = whileF c b n e m
  | 0, _, _, _, h => absurd rfl h
  | n + 1, k, e, m, h => by
    rw [show n + 1 + k = (n + k) + 1 by omega]
    unfold whileF at h ⊢
    cases qc : c e m with
    | stuck => rfl
    | exc C fs m1 => rfl
    | ok v m1 =>
      rw [qc] at h
      cases v with
      | false => rfl
      | true =>
        dsimp only at h ⊢
        cases qb : b e m1 with
        | nx e2 m2 => rw [qb] at h; exact whileF_more c b n k e2 m2 h
        | ct e2 m2 => rw [qb] at h; exact whileF_more c b n k e2 m2 h
        | _ => rfl
theorem dWhile_eq {c : DT} {b : DS} {n : Nat} {e : En} {m : Mu} {r : RS} (h : whileF c b n e m = r) (hr : r ≠ .stuck) : dWhile c b e m = r := by
  have hex : ∃ n, whileF c b n e m ≠ .stuck := ⟨n, by rw [h]; exact hr⟩
  unfold dWhile
  rw [dif_pos hex]
  have hc := hex.choose_spec
  have h1 := whileF_more c b n hex.choose e m (by rw [h]; exact hr)
  have h2 := whileF_more c b hex.choose n e m hc
  rw [Nat.add_comm] at h2
  rw [← h, ← h1, h2]
theorem pds_while {c : Expr} {body : List Stmt} {v : DT} {u : DS} (hv : PDT X c v) (hb : PDSs X body u) (hp : PassesOwn (model X.prog X.w) X.A X.env X.xe) : PDS X (.While c body [] pos) (dWhile v u) := by
  refine ps_of (ps_while hp (mxT X c) (mxSs X body)) fun S r m σ N sa re p => ?_
  unfold dWhile at p
  split at p
  · rename_i hex
    generalize hex.choose = n at p
    refine ⟨fun n σ' H' => ∃ (U : Wd) (e : En) (m' : Mu), U.H = H' ∧ Sta X.K U m' ∧ RelE X.K U e σ' ∧ PostS X.K U (whileF v u n e m') N (Fly X), ⟨n, S, r, m, rfl, sa, re, p⟩, ?_⟩
    rintro n σ' H' ⟨U, e, m', rfl, saU, reU, pU⟩
    cases n with
    | zero => exact (show False from pU).elim
    | succ n =>
      refine hv U e m' σ' _ saU reU ?_
      unfold whileF at pU
      cases qc : v e m' with
      | stuck => rw [qc] at pU; exact pU.elim
      | exc C fs m1 => rw [qc] at pU; exact fun dd vs T st hn sa1 h1 h2 => pU dd vs σ' T st hn sa1 (reU.stp st) h1 h2
      | ok k m1 =>
        rw [qc] at pU
        intro k' T st sa1 hk
        cases (show k = k' from hk)
        have pT := PostS.step st pU
        cases k with
        | false => exact iteF (pT σ' T (Stp.refl T) sa1 (reU.stp st))
        | true =>
          refine iteT ⟨fun σ2 H2 => ∃ (U : Wd) (e : En) (m' : Mu), U.H = H2 ∧ Sta X.K U m' ∧ RelE X.K U e σ2 ∧ PostS X.K U (whileF v u n e m') N (Fly X), fun σ2 H2 h2 => ⟨n, Nat.lt_succ_self n, h2⟩, ?_⟩
          refine hb T e m1 σ' _ sa1 (reU.stp st) ?_
          dsimp only at pT
          cases qb : u e m1 with
          | stuck => rw [qb] at pT; exact pT.elim
          | nx e2 m2 => rw [qb] at pT; exact fun σ2 Z stZ saZ reZ => ⟨Z, e2, m2, rfl, saZ, reZ, PostS.step stZ pT⟩
          | ct e2 m2 => rw [qb] at pT; exact fun σ2 Z stZ saZ reZ => ⟨Z, e2, m2, rfl, saZ, reZ, PostS.step stZ pT⟩
          | bk e2 m2 => rw [qb] at pT; exact pT
          | rt d m2 => rw [qb] at pT; exact pT
          | exc C fs e2 m2 => rw [qb] at pT; exact pT
  · exact p.elim
def dCompL (g : DG) (c : DT) (b : DE) (e : En) : List D → Mu → List D → Res (List D)
  | [], m, acc => .ok acc m
  | d :: ds, m, acc => match g d e with
    | none => .stuck
    | some e1 => match c e1 m with
      | .ok true m1 => match b e1 m1 with
        | .ok x m2 => if acc.length < sizeLine then dCompL g c b e ds m2 (acc ++ [x]) else .stuck
        | _ => .stuck
      | .ok false m1 => dCompL g c b e ds m1 acc
      | _ => .stuck
def dComp (t : DA) (g : DG) (c : DT) (b : DE) (own : List Nat) : DE := fun e m => (t e m).bind fun ds m1 => (dCompL g c b (wipeE e own) ds m1 []).bind fun xs m2 => .ok (.lst xs) m2
def dYes : DT := fun _ m => .ok true m
def WTs (X : Cx) (ifs : List Expr) : TT := fun σ H Q => ∀ (pins : List (Addr × Obj)) (s : Shared), Inv X pins σ H s → wpAny (model X.prog X.w) X.A (forIn ifs true fun c r => if r = true then do let ok ← isTrue c X.env (eval c X.env); pure (ForInStep.yield ok) else pure (ForInStep.yield r)) (TP X pins σ Q) X.xe s
def PDTs (X : Cx) (ifs : List Expr) (t : DT) : Prop := ∀ S r m σ Q, Sta X.K S m → RelE X.K S r σ → PostB X.K S (t r m) Q (fun c d H => Fly X c d σ H) → WTs X ifs σ S.H Q
theorem pdts_nil : PDTs X [] dYes := fun S r m σ Q sa re p pins s I => (pts_nil (X := X)).run pins s σ S.H Q I (Post.ok p (Stp.refl S) sa rfl)
end
end DL

namespace DL
open PySem PySem.Spec PyProof.Rows L2
variable [LamTab]
section
variable {K : PySem.W.Frag} {S T U Y : Wd}
theorem Stp.hid (st : Stp T Y) {p : Addr} {o : HO} (h : T.H p = none) : Stp T (Y.put p o) := ⟨st.pre, st.ext, fun a u hn h1 h2 h3 => by
  have ne : a ≠ p := ne_of_none h1 h
  obtain ⟨k1, k2, k3⟩ := st.frame a u hn h1 h2 h3
  exact ⟨by show upd Y.H p o a = _; rw [upd_ne ne]; exact k1, k2, k3⟩, fun a z => st.old a (upd_none z)⟩
theorem Stp.kept (st : Stp T Y) {p : Addr} {o : HO} (h : T.H p = none) (hf : Y.F p = none) : Stp T (Y.keep p o) := ⟨st.pre, st.ext.trans (Ext.updNew hf), fun a u hn h1 h2 h3 => by
  have ne : a ≠ p := ne_of_none h1 h
  obtain ⟨k1, k2, k3⟩ := st.frame a u hn h1 h2 h3
  exact ⟨k1, by show upd Y.F p o a = _; rw [upd_ne ne]; exact k2, k3⟩, st.old⟩
end
theorem wipe_none {σ : L2.St} : ∀ {vs : List Nat} {i : Nat}, i ∈ vs → i < σ.length → (wipe σ vs)[i]? = some none
  | v :: vs, i, h, hl => by
    unfold wipe
    by_cases hv : v = i
    · subst hv
      rw [List.getElem?_set_self (by rw [wipe_length]; exact hl)]
    · rw [List.getElem?_set_ne hv]
      rcases List.mem_cons.mp h with e | h
      · exact absurd e.symm hv
      · exact wipe_none h hl
theorem wipe_idem {σ : L2.St} : ∀ {vs : List Nat}, (∀ i ∈ vs, σ[i]? = none ∨ σ[i]? = some none) → wipe σ vs = σ
  | [], _ => rfl
  | v :: vs, h => by
    unfold wipe
    rw [wipe_idem (fun i hi => h i (List.mem_cons_of_mem _ hi))]
    apply List.ext_getElem?
    intro j
    by_cases hj : v = j
    · subst hj
      rcases h v List.mem_cons_self with e | e
      · rw [List.getElem?_eq_none (by rw [List.length_set]; exact List.getElem?_eq_none_iff.mp e), e]
      · rw [List.getElem?_set_self (List.getElem?_eq_some_iff.mp e).1, e]
    · rw [List.getElem?_set_ne hj]
theorem wipe_wipe (σ : L2.St) (vs : List Nat) : wipe (wipe σ vs) vs = wipe σ vs := wipe_idem fun i hi => by
  by_cases hl : i < σ.length
  · exact .inr (wipe_none hi hl)
  · exact .inl (List.getElem?_eq_none (by rw [wipe_length]; omega))
section
variable {X : Cx}
abbrev Bk (X : Cx) (scope : Scope) (s : Shared) (H : Hp) (C : Addr) (cl : List (Str × Addr)) (fp : List Addr) : Cx := X.blk s H scope (compEnvC scope cl C X.env) fp
abbrev bG (X : Cx) (scope : Scope) (tg : Expr) : TG := fun v σ H Q => ∀ s0 H0 C cl fp, WG (Bk X scope s0 H0 C cl fp) tg v σ H Q
abbrev bT (X : Cx) (scope : Scope) (ifs : List Expr) : TT := fun σ H Q => ∀ s0 H0 C cl fp, WTs (Bk X scope s0 H0 C cl fp) ifs σ H Q
abbrev bE (X : Cx) (scope : Scope) (elt : Expr) : TE := fun σ H Q => ∀ s0 H0 C cl fp, WE (Bk X scope s0 H0 C cl fp) elt σ H Q
variable {elt tg iter : Expr} {ifs : List Expr} {scope : Scope} {own : List (Str × Nat)} {pos spos : Pos} {t : DA} {g : DG} {c : DT} {b : DE} {sl : List Nat}
theorem lc_go {σ : L2.St} {S : Wd} {r : En} {m : Mu} {Q : VK} (hi : PDI X tg iter t)
    (hg : ∀ s H C cl fp, PDG (Bk X scope s H C cl fp) tg g sl) (ht : ∀ s H C cl fp, PDTs (Bk X scope s H C cl fp) ifs c) (he : ∀ s H C cl fp, PDE (Bk X scope s H C cl fp) elt b)
    (hsl : ∀ i ∈ sl, i ∈ own.map (·.2))
    (sa : Sta X.K S m) (re : RelE X.K S r σ) (p : PostD X.K S (dComp t g c b (own.map (·.2)) r m) Q (fun c d H => Fly X c d σ H)) :
    tLc (WI X tg iter) (bG X scope tg) (bT X scope ifs) (bE X scope elt) (own.map (·.2)) σ S.H Q := by
  refine hi S r m σ _ sa re ?_
  unfold dComp at p
  cases q : t r m with
  | stuck => rw [q] at p; exact p
  | exc C fs m1 => rw [q] at p; exact p
  | ok ds m1 =>
    rw [q] at p
    intro J T st sa1 hJ Dd hD
    have pT : PostD X.K T ((dCompL g c b (wipeE r (own.map (·.2))) ds m1 []).bind fun xs m2 => Res.ok (D.lst xs) m2) Q (fun c d H => Fly X c d σ H) := Post.step st p
    have reW : RelE X.K T (wipeE r (own.map (·.2))) (wipe σ (own.map (·.2))) := (re.stp st).wipe _
    have f0 := sa1.fresh hD
    refine ⟨fun i n H' => n = ds.length - i ∧ i ≤ ds.length ∧ ∃ (U : Wd) (m' : Mu) (acc : List D) (av : List V), U.H = H' ∧ Stp T U ∧ Sta X.K U m' ∧ U.H Dd = some (.lst av) ∧ U.F Dd = none ∧ Dd ∉ U.i ∧ Reps X.K U.i U.F acc av ∧
        PostD X.K T ((dCompL g c b (wipeE r (own.map (·.2))) (ds.drop i) m' acc).bind fun xs m2 => Res.ok (D.lst xs) m2) Q (fun c d H => Fly X c d σ H),
      ⟨ds.length, by simp, Nat.zero_le _, T.put Dd (.lst []), m1, [], [], rfl, (Stp.refl T).hid hD, sa1.hid f0.1 f0.2 (by rw [hD]; exact nofun), upd_same, f0.1, f0.2, .nil, pT⟩, ?_⟩
    rintro i n H' ⟨rfl, hi', U, m', acc, av, rfl, stU, saU, hU1, hU2, hU3, rA, pU⟩
    by_cases hlt : i < ds.length
    · refine .inr ⟨((hJ U m' i stU saU).1 _ (List.getElem?_eq_getElem hlt)).1, fun H2 => i + 1 ≤ ds.length ∧ ∃ (U : Wd) (m' : Mu) (acc : List D) (av : List V), U.H = H2 ∧ Stp T U ∧ Sta X.K U m' ∧ U.H Dd = some (.lst av) ∧ U.F Dd = none ∧ Dd ∉ U.i ∧ Reps X.K U.i U.F acc av ∧
        PostD X.K T ((dCompL g c b (wipeE r (own.map (·.2))) (ds.drop (i + 1)) m' acc).bind fun xs m2 => Res.ok (D.lst xs) m2) Q (fun c d H => Fly X c d σ H),
        fun H2 h2 => ⟨ds.length - (i + 1), by omega, rfl, h2.1, h2.2⟩, fun x H2 hy => ?_⟩
      obtain ⟨Y, rfl, stY, saY, rdY⟩ := ((hJ U m' i stU saU).1 _ (List.getElem?_eq_getElem hlt)).2 x H2 hy
      obtain ⟨y1, y2, y3⟩ := stY.frame Dd _ (by exact nofun) hU1 hU2 hU3
      rw [List.drop_eq_getElem_cons hlt] at pU
      unfold dCompL at pU
      have stT := stU.trans stY
      cases qg : g ds[i] (wipeE r (own.map (·.2))) with
      | none => rw [qg] at pU; exact (show False from pU).elim
      | some e1 =>
        rw [qg] at pU
        dsimp only at pU
        intro s0 H0 C0 cl0 fp0
        refine hg s0 H0 C0 cl0 fp0 Y (wipeE r (own.map (·.2))) m' (wipe σ (own.map (·.2))) ds[i] x e1 _ saY (reW.stp stT) rdY qg ?_
        intro σ1 re1 bs
        refine ⟨?_, ?_⟩
        · rw [bs _ hsl]
          exact wipe_wipe _ _
        intro s0 H0 C0 cl0 fp0
        cases qc : c e1 m' with
        | stuck => rw [qc] at pU; exact (show False from pU).elim
        | exc C fs m2 => rw [qc] at pU; exact (show False from pU).elim
        | ok k m2 =>
          rw [qc] at pU
          refine ht s0 H0 C0 cl0 fp0 Y e1 m' σ1 _ saY re1 ?_
          rw [qc]
          intro k' Z stZ saZ hk
          cases (show k = k' from hk)
          obtain ⟨z1, z2, z3⟩ := stZ.frame Dd _ (by exact nofun) y1 y2 y3
          cases k with
          | false =>
            exact iteF ⟨hlt, Z, m2, acc, av, rfl, stT.trans stZ, saZ, z1, z2, z3, (rA.stp stY).stp stZ, pU⟩
          | true =>
            refine iteT ?_
            intro s0 H0 C0 cl0 fp0
            dsimp only at pU
            cases qb : b e1 m2 with
            | stuck => rw [qb] at pU; exact (show False from pU).elim
            | exc C fs m3 => rw [qb] at pU; exact (show False from pU).elim
            | ok dx m3 =>
              rw [qb] at pU
              refine he s0 H0 C0 cl0 fp0 Z e1 m2 σ1 _ saZ (re1.stp stZ) ?_
              rw [qb]
              intro vx V1 stV saV rx
              obtain ⟨w1, w2, w3⟩ := stV.frame Dd _ (by exact nofun) z1 z2 z3
              dsimp only at pU
              split at pU
              · rename_i hlen
                refine ⟨av, w1, by rw [← rA.len]; exact hlen, hlt, V1.put Dd (.lst (av ++ [vx])), m3, acc ++ [dx], av ++ [vx], rfl, ((stT.trans stZ).trans stV).hid hD, saV.hid w2 w3 (by rw [w1]; exact nofun), upd_same, w2, w3, ((((rA.stp stY).stp stZ).stp stV)).append (.cons rx .nil), pU⟩
              · exact (show False from pU).elim
    · have e : i = ds.length := by omega
      subst e
      rw [List.drop_length] at pU
      refine .inl ⟨(hJ U m' _ stU saU).2 (Nat.le_refl _), ?_⟩
      have pU : PostD X.K T (Res.ok (D.lst acc) m') Q (fun c d H => Fly X c d σ H) := pU
      exact pU (.ref Dd) (U.keep Dd (.lst av)) (stU.kept hD hU2) (saU.keep hU1 hU2 hU3 (by exact nofun)) (.lst (.inl (.inl upd_same)) (rA.mono (List.prefix_refl _) (Ext.updNew hU2)))
theorem pd_lc (hi : PDI X tg iter t) (hN : X.N.Nodup) (ok : BlkOk X.N X.env.scope scope own)
    (hg : ∀ s H C cl fp, PDG (Bk X scope s H C cl fp) tg g sl) (ht : ∀ s H C cl fp, PDTs (Bk X scope s H C cl fp) ifs c) (he : ∀ s H C cl fp, PDE (Bk X scope s H C cl fp) elt b)
    (hc : X.calm = true) (hsl : ∀ i ∈ sl, i ∈ own.map (·.2) := by decide) (hs : ∀ x, foldedSetIterable iter X.env x = pure x := by intro _; rfl) :
    PDE X (.ListComp elt [⟨tg, iter, ifs, 0⟩] scope pos) (dComp t g c b (own.map (·.2))) :=
  pd_of (pe_lc (g := bG X scope tg) (tt := bT X scope ifs) (te := bE X scope elt) hc hN (mxI X tg iter) ok (fun s H C cl fp => ⟨fun pins s1 σ H1 v u Q I r h => h s H C cl fp pins s1 u I r⟩) (fun s H C cl fp => ⟨fun pins s1 σ H1 Q I h => h s H C cl fp pins s1 I⟩) (fun s H C cl fp => ⟨fun pins s1 σ H1 Q I h => h s H C cl fp pins s1 I⟩) hs)
    fun S r m σ Q sa re p => lc_go hi hg ht he hsl sa re p
variable {a e o : Expr} {es : List Expr} {ta tb to : DE}
def dPutI (tv to ti : DE) : DS := fun e m => rsOf e (tv e m) fun v m1 => rsOf e (to e m1) fun o m2 => rsOf e (ti e m2) fun i m3 => match o, i with
  | .loc n, .int k => match m3[n]? with
    | some (.lst ds) => match ixN ds.length k with
      | some j => .nx e (m3.set n (.lst (ds.set j v)))
      | none => .stuck
    | _ => .stuck
  | _, _ => .stuck
theorem pds_putI {tpos : Pos} {i : Expr} {ti : DE} (hv : PDE X a ta) (ho : PDE X o to) (hi : PDE X i ti) (hs : swapsWithSole [.Subscript o i tpos] a pos.line X.env = pure false := by rfl) (hw : swappedStores [.Subscript o i tpos] a X.env = pure none := by rfl)
    (h1 : (assignEach [.Subscript o i tpos] X.env).map (·.2) = [assign (.Subscript o i tpos) X.env] := by rfl)
    (ha : ∀ v, assign (.Subscript o i tpos) X.env v = (do
      let ov ← holding [v] (eval o X.env)
      let iv ← holding [v, ov] (eval i X.env)
      standAt tpos
      holding [v, ov, iv] (setItem ov iv v)
      release [v, ov, iv] []) := by intro _; rfl) : PDS X (.Assign [.Subscript o i tpos] a pos) (dPutI ta to ti) := by
  refine ps_of (ps_asg (mxE X a) (pg_sub (mxE X o) (mxE X i) set_list ha) hs hw h1) fun S r m σ N sa re p => ?_
  refine hv S r m σ _ sa re (PDE.stm re p fun v m1 vv T st sa1 rv q => ?_)
  refine ho T r m1 σ _ sa1 (re.stp st) (PDE.stm (re.stp st) q fun d m2 vo U st2 sa2 ro q2 => ?_)
  refine hi U r m2 σ _ sa2 ((re.stp st).stp st2) (PDE.stm ((re.stp st).stp st2) q2 fun ii m3 vi Y st3 sa3 ri q3 => ?_)
  split at q3
  · rename_i n k
    cases ri
    split at q3
    · rename_i ds e1
      split at q3
      · rename_i j ej
        cases (ro.stp st3) with
        | loc hn =>
          obtain ⟨xs, h1, h2⟩ := sa3.ok n _ _ hn e1
          refine ⟨_, xs, k, j, rfl, rfl, h1, by rw [← h2.len]; exact ej, ?_⟩
          obtain ⟨stZ, saZ⟩ := sa3.put (o := .lst (xs.set j vv)) (q := .lst (ds.set j v)) hn ⟨_, upd_same, Reps.set ((rv.stp st2).stp st3) j h2⟩
          exact q3 σ _ stZ saZ ((((re.stp st).stp st2).stp st3).stp stZ)
      · exact q3.elim
    · exact q3.elim
  · exact q3.elim
def dPutF (Cs : List Addr) (f : Str) (tv to : DE) : DS := fun e m => rsOf e (tv e m) fun v m1 => rsOf e (to e m1) fun o m2 => match o with
  | .loc n => match m2[n]? with
    | some (.ins C fs) => if C ∈ Cs ∧ fs.length < 1000 then .nx e (m2.set n (.ins C (putD f v fs))) else .stuck
    | _ => .stuck
  | _ => .stuck
theorem put_reps {K : PySem.W.Frag} {ι : List Addr} {F : Hp} {f : Str} {d : D} {v : V} (h : Rep K ι F d v) : ∀ {fs : List (Str × D)} {vs : List (Str × V)}, RepF K ι F fs vs → RepF K ι F (putD f d fs) (putF f v vs)
  | _, _, .nil => .cons h .nil
  | _, _, .cons (f := g) h1 r => by
    unfold putD putF
    split
    · exact .cons h r
    · exact .cons h1 (put_reps h r)
theorem pds_putF {f : Str} {pos' : Pos} {Cs : List Addr} (hv : PDE X a ta) (ho : PDE X o to) (hC : ∀ C ∈ Cs, Cls X.K C ∧ NoAttr X.K C f) (hs : swapsWith a (some (.Attribute o f pos')) pos.line X.env = pure false := by rfl) :
    PDS X (.Assign [.Attribute o f pos'] a pos) (dPutF Cs f ta to) := by
  refine ps_of (ps_fld (mxE X o) (mxE X a) hs) fun S r m σ N sa re p => ?_
  refine hv S r m σ _ sa re (PDE.stm re p fun v m1 vv T st sa1 rv q => ?_)
  refine ho T r m1 σ _ sa1 (re.stp st) (PDE.stm (re.stp st) q fun d m2 vo U st2 sa2 ro q2 => ?_)
  split at q2
  · rename_i n
    split at q2
    · rename_i C fs e1
      split at q2
      · rename_i hc
        cases ro with
        | loc hn =>
          obtain ⟨dx, vs, h1, h2⟩ := sa2.ok n _ _ hn e1
          obtain ⟨c1, c2⟩ := hC C hc.1
          refine ⟨_, C, dx, vs, rfl, h1, c1, c2, by rw [← h2.len]; exact hc.2, ?_⟩
          obtain ⟨stZ, saZ⟩ := sa2.put (o := .ins C dx (putF f vv vs)) (q := .ins C (putD f v fs)) hn ⟨dx, _, upd_same, put_reps (rv.stp st2) h2⟩
          exact q2 σ _ stZ saZ (((re.stp st).stp st2).stp stZ)
      · exact q2.elim
    · exact q2.elim
  · exact q2.elim
end
mutual
def below (n : Nat) : D → Bool
  | .loc k => decide (k < n)
  | .tup ds => belows n ds
  | .lst ds => belows n ds
  | .obj _ ds => belows n ds
  | .xob _ _ => false
  | .lam _ _ => false
  | .clo _ _ => false
  | _ => true
def belows (n : Nat) : List D → Bool
  | [] => true
  | d :: ds => below n d && belows n ds
end
def Mo.below (n : Nat) : Mo → Bool
  | .lst ds => belows n ds
  | .ins _ fs => belows n (fs.map (·.2))
  | .exo _ none => true
  | .exo _ (some k) => decide (k < n)
  | .exd fs => belows n (fs.map (·.2))
  | .dik kvs => belows n (kvs.map (·.2))
  | .dit kvs => belows n (kvs.map (·.2))
def Cl (m : Mu) : Prop := ∀ o ∈ m, o.below m.length = true
def Wd.cut (Z : Wd) (l : List Addr) : Wd := ⟨l, fun a => if a ∈ Z.i then (if a ∈ l then none else Z.H a) else Z.F a, Z.H⟩
section
variable {K : PySem.W.Frag} {T Z : Wd}
theorem cutF_out {a : Addr} {o : HO} {m : Mu} (sa : Sta K Z m) (h : Z.F a = some o) (l : List Addr) : (Z.cut l).F a = some o := by
  have : a ∉ Z.i := fun z => by rw [sa.dis a z] at h; cases h
  show (if a ∈ Z.i then _ else Z.F a) = some o
  rw [if_neg this]; exact h
mutual
theorem Rep.cut {m : Mu} (sa : Sta K Z m) {l : List Addr} (hl : l <+: Z.i) : ∀ {d : D} {v : V}, Rep K Z.i Z.F d v → below l.length d = true → Rep K l (Z.cut l).F d v
  | _, _, .non, _ => .non
  | _, _, .bl b, _ => .bl b
  | _, _, .int i, _ => .int i
  | _, _, .str x, _ => .str x
  | _, _, .tup h r, hb => .tup (SqT.ext' h fun a o e => cutF_out sa e l) (Reps.cut sa hl r (by unfold below at hb; exact hb))
  | _, _, .lst h r, hb => .lst (SqL.ext' h fun a o e => cutF_out sa e l) (Reps.cut sa hl r (by unfold below at hb; exact hb))
  | _, _, .obj h n r, hb => .obj (cutF_out sa h l) n (Reps.cut sa hl r (by unfold below at hb; exact hb))
  | _, _, .loc (n := k) h, hb => .loc (by
      unfold below at hb
      have hk : k < l.length := of_decide_eq_true hb
      obtain ⟨t, e⟩ := hl
      rw [← e, List.getElem?_append_left hk] at h
      exact h)
  | _, _, .val v, _ => .val v
  | _, _, .xob h n r, hb => by simp [below] at hb
  | _, _, .lam h, hb => by simp [below] at hb
  | _, _, .clo h h2 r, hb => by simp [below] at hb
theorem Reps.cut {m : Mu} (sa : Sta K Z m) {l : List Addr} (hl : l <+: Z.i) : ∀ {d : List D} {v : List V}, Reps K Z.i Z.F d v → belows l.length d = true → Reps K l (Z.cut l).F d v
  | _, _, .nil, _ => .nil
  | _, _, .cons h r, hb => by
    unfold belows at hb
    obtain ⟨h1, h2⟩ := Bool.and_eq_true_iff.mp hb
    exact .cons (Rep.cut sa hl h h1) (Reps.cut sa hl r h2)
end
theorem RepF.join : ∀ {fs : List (Str × D)} {vs : List (Str × V)} {i : List Addr} {F : Hp}, vs.map (·.1) = fs.map (·.1) → Reps K i F (fs.map (·.2)) (vs.map (·.2)) → RepF K i F fs vs
  | [], [], _, _, _, _ => .nil
  | [], _ :: _, _, _, h, _ => by simp at h
  | _ :: _, [], _, _, h, _ => by simp at h
  | (f, d) :: fs, (g, v) :: vs, _, _, h, r => by
    simp only [List.map_cons, List.cons.injEq] at h
    obtain ⟨rfl, h⟩ := h
    simp only [List.map_cons] at r
    cases r with
    | cons h1 h2 => exact .cons h1 (RepF.join h h2)
theorem cut_ok {mT m : Mu} (saT : Sta K T mT) (st : Stp T Z) (sa : Sta K Z m) (hb : ∀ o ∈ m.take mT.length, o.below mT.length = true) : Stp T (Z.cut T.i) ∧ Sta K (Z.cut T.i) (m.take mT.length) := by
  have hpre := st.pre
  have hlen : mT.length ≤ m.length := by
    rw [← saT.len, ← sa.len]; exact hpre.length_le
  have sub : ∀ a, a ∈ T.i → a ∈ Z.i := fun a h => hpre.subset h
  refine ⟨⟨List.prefix_refl _, fun a o e => cutF_out sa (st.ext a o e) T.i, fun a o hn h1 h2 h3 => ?_, st.old⟩, saT.nd, ?_, fun a o e => ?_, fun a ha => ?_, fun a ha => sa.tr a (sub a ha), fun n a o h1 h2 => ?_, fun q hq => ?tb⟩
  case tb =>
    obtain ⟨ps, t1, t2, t3, t4, t5⟩ := sa.tb q hq
    exact ⟨ps, t1, by show (if q.1 ∈ Z.i then _ else Z.F q.1) = none; rw [if_neg t3]; exact t2, fun z => t3 (sub _ z), t4, fun pos cv hc => let ⟨c, c1, c2⟩ := t5 pos cv hc; ⟨c, c1, cutF_out sa c2 T.i⟩⟩
  · obtain ⟨k1, k2, k3⟩ := st.frame a o hn h1 h2 h3
    exact ⟨k1, by show (if a ∈ Z.i then _ else Z.F a) = none; rw [if_neg k3]; exact k2, h3⟩
  · show T.i.length = _
    rw [List.length_take, saT.len]
    omega
  · have e : (if a ∈ Z.i then (if a ∈ T.i then none else Z.H a) else Z.F a) = some o := e
    show Z.H a = some o
    split at e
    · split at e
      · cases e
      · exact e
    · exact sa.sub a o e
  · show (if a ∈ Z.i then (if a ∈ T.i then none else Z.H a) else Z.F a) = none
    have ha : a ∈ T.i := ha
    rw [if_pos (sub a ha), if_pos ha]
  · have h1 : T.i[n]? = some a := h1
    have h1' := pre_get hpre h1
    have hn : n < mT.length := by rw [← saT.len]; exact (List.getElem?_eq_some_iff.mp h1).1
    have h2' : m[n]? = some o := by
      rw [List.getElem?_take_of_lt hn] at h2; exact h2
    have hbo := hb o (List.mem_of_getElem? h2)
    have q := sa.ok n a o h1' h2'
    rw [← saT.len] at hbo
    cases o with
    | lst ds => obtain ⟨xs, q1, q2⟩ := q; exact ⟨xs, q1, q2.cut sa hpre hbo⟩
    | ins C fs => obtain ⟨dx, vs, q1, q2⟩ := q; exact ⟨dx, vs, q1, RepF.join q2.split.1 (q2.split.2.cut sa hpre hbo)⟩
    | exo C d =>
      cases d with
      | none => exact q
      | some k =>
        obtain ⟨dx, q1, q2⟩ := q
        have hk : k < T.i.length := of_decide_eq_true hbo
        refine ⟨dx, ?_, q2⟩
        obtain ⟨t, ht⟩ := hpre
        have q1' := q1
        rw [← ht, List.getElem?_append_left hk] at q1'
        exact q1'
    | exd fs => obtain ⟨vs, q1, q2⟩ := q; exact ⟨vs, q1, RepF.join q2.split.1 (q2.split.2.cut sa hpre hbo)⟩
    | dik kvs => obtain ⟨vs, q1, q0, q2⟩ := q; exact ⟨vs, q1, q0, q2.cut sa hpre hbo⟩
    | dit kvs => obtain ⟨vs, q1, q0, q2⟩ := q; exact ⟨vs, q1, q0, q2.cut sa hpre hbo⟩
theorem cut_at {mT m : Mu} (saT : Sta K T mT) (st : Stp T Z) (sa : Sta K Z m) {n : Nat} {a : Addr} (hn : mT.length ≤ n) (h : Z.i[n]? = some a) : (Z.cut T.i).F a = Z.H a := by
  have ha : a ∈ Z.i := List.mem_of_getElem? h
  have hna : a ∉ T.i := fun z => by
    obtain ⟨j, hj⟩ := List.getElem?_of_mem z
    have hj' := pre_get st.pre hj
    obtain ⟨l1, e1⟩ := List.getElem?_eq_some_iff.mp hj'
    obtain ⟨l2, e2⟩ := List.getElem?_eq_some_iff.mp h
    have := (List.getElem_inj sa.nd).mp (e1.trans e2.symm)
    have := (List.getElem?_eq_some_iff.mp hj).1
    rw [saT.len] at this
    omega
  show (if a ∈ Z.i then (if a ∈ T.i then none else Z.H a) else Z.F a) = Z.H a
  rw [if_pos ha, if_neg hna]
end
section
variable {X : Cx} {e o : Expr} {es : List Expr} {t : DA} {pos p : Pos} {x : Str} {k : Nat} {C : Addr} {G : DFn}
structure KT (P : Program) (w : World) (K : PySem.W.Frag) (mg : Str → Option Value) (base : Heap) (k : Nat) (x : Str) (C : Addr) (G : DFn) : Prop where
  mgx : mg x = some (.ref C)
  ex : ∃ (f : Addr) (fd : FuncData) (ps : List Str) (dds : List D) (G0 : DFn), Mk K C f ∧ FnD P w K mg base k f fd ps G0 ∧ Bd K fd ps dds ∧ G = padF ps.length dds G0
open Classical in
noncomputable def mkObj (C : Addr) (m : Mu) (r : Res D) : Res D := match r with
  | .ok .non m2 => match m2[m.length]? with
    | some (.ins C' fs) => if C' = C ∧ m2 = m ++ [.ins C' fs] ∧ Cl m ∧ belows m.length (fs.map (·.2)) = true then .ok (.obj ⟨C, fs.map (·.1)⟩ (fs.map (·.2))) m else .stuck
    | _ => .stuck
  | .exc C' fs m2 => .exc C' fs m2
  | _ => .stuck
noncomputable def dMake (C : Addr) (G : DFn) (t : DA) : DE := fun e m => (t e m).bind fun ds m1 => mkObj C m1 (G (.loc m1.length :: ds) (m1 ++ [.ins C []]))
theorem run_mk {pins : List (Addr × Obj)} {σ : L2.St} {T : Wd} {m : Mu} {s : Shared} {Q : VK} {us : List Value} {vs : List V} {das : List D} (F : KT X.prog X.w X.K X.mg X.base k x C G) (hr : Room (k + 1) X.A)
    (I : Inv X pins σ T.H s) (sa : Sta X.K T m) (r : Reps X.K T.i T.F das vs) (rv : Vals vs us) (h : PostD X.K T (mkObj C m (G (.loc m.length :: das) (m ++ [.ins C []]))) Q (fun c d H => Fly X c d σ H)) :
    wpAny (model X.prog X.w) X.A (call (.ref C) us) (EP X pins σ Q) X.xe s := by
  obtain ⟨f, fd, ps, dds, G0, M, hf, hb, rfl⟩ := F.ex
  obtain ⟨dsv, dvs, hb1, hd1, hD⟩ := hb.ex
  -- the new instance and its dict
  have nx : T.H (s.heap.objs.size + 1) = none := I.hok.fresh (Nat.le_succ _)
  have ndx : T.H s.heap.objs.size = none := I.hok.fresh (Nat.le_refl _)
  have ne : s.heap.objs.size ≠ s.heap.objs.size + 1 := Nat.ne_of_lt (Nat.lt_succ_self _)
  have I2 := Inv.made (C := C) I
  have st1 := Stp.new sa (o := .own (s.heap.objs.size + 1)) ndx
  have sa1 := sa.new (o := .own (s.heap.objs.size + 1)) ndx
  have nx1 : (T.new s.heap.objs.size (.own (s.heap.objs.size + 1))).H (s.heap.objs.size + 1) = none := by
    show upd T.H _ _ _ = none
    rw [upd_ne ne.symm]; exact nx
  have st2 := Stp.tok sa1 (o := .ins C s.heap.objs.size []) nx1
  have sa2 := sa1.tok (o := .ins C s.heap.objs.size []) nx1 (q := .ins C []) ⟨s.heap.objs.size, [], upd_same, .nil⟩
  have st12 := st1.trans st2
  generalize hT2 : (T.new s.heap.objs.size (.own (s.heap.objs.size + 1))).tok (s.heap.objs.size + 1) (.ins C s.heap.objs.size []) = T2 at st2 sa2 st12
  have hH2 : T2.H = upd (upd T.H s.heap.objs.size (.own (s.heap.objs.size + 1))) (s.heap.objs.size + 1) (.ins C s.heap.objs.size []) := by rw [← hT2]; rfl
  have hi2 : T2.i = T.i ++ [s.heap.objs.size + 1] := by rw [← hT2]; rfl
  have hloc : T2.i[m.length]? = some (s.heap.objs.size + 1) := by
    rw [hi2, ← sa.len, List.getElem?_append_right (Nat.le_refl _), Nat.sub_self]; rfl
  have r1 : Reps X.K T2.i T2.F (.loc m.length :: (das ++ dds)) (V.ref (s.heap.objs.size + 1) :: (vs ++ dvs)) := .cons (.loc hloc) ((r.stp st12).append (hD _ _))
  have r2 : Vals (V.ref (s.heap.objs.size + 1) :: (vs ++ dvs)) (Value.ref (s.heap.objs.size + 1) :: (us ++ dsv)) := .cons rfl (rv.append hd1)
  unfold padF at h
  have hcons : D.loc m.length :: das ++ dds = D.loc m.length :: (das ++ dds) := rfl
  rw [hcons] at h
  split at h
  · rename_i hl
    have hlv : (V.ref (s.heap.objs.size + 1) :: (vs ++ dvs)).length = ps.length := by rw [← r1.len]; exact hl
    have hl2 : (Value.ref (s.heap.objs.size + 1) :: us ++ dsv).length = ps.length := by
      have e := r2.length
      rw [hlv] at e
      exact e.symm
    rw [← hH2] at I2
    have hsp : spD X.K ps.length G0 (V.ref (s.heap.objs.size + 1) :: (vs ++ dvs)) T2.H (fun v H2 => v = .non ∧ Q (.ref (s.heap.objs.size + 1)) H2) (fun c d H => Fly X c d σ H) := by
      refine ⟨hlv, T2, m ++ [.ins C []], _, rfl, sa2, r1, ?_⟩
      cases hG : G0 (D.loc m.length :: (das ++ dds)) (m ++ [.ins C []]) with
      | stuck => rw [hG] at h; exact (show False from h).elim
      | exc C' fs m2 =>
        rw [hG] at h
        exact fun dd vs' Z stZ hn saZ h1 h2 => h dd vs' Z (st12.trans stZ) (st12.old dd hn) saZ h1 h2
      | ok dv m2 =>
        rw [hG] at h
        intro v Z stZ saZ rdv
        unfold mkObj at h
        split at h
        · rename_i heq
          cases heq
          cases rdv
          refine ⟨rfl, ?_⟩
          split at h
          · rename_i C' fs e1
            split at h
            · rename_i hc
              obtain ⟨rfl, hm2, hcl, hbel⟩ := hc
              have hzi := pre_get stZ.pre hloc
              obtain ⟨dx, vv, q1, q2⟩ := saZ.ok _ _ _ hzi e1
              have htk : m2.take m.length = m := by rw [hm2]; simp
              have stTZ := st12.trans stZ
              obtain ⟨c1, c2⟩ := cut_ok sa stTZ saZ (by rw [htk]; exact hcl)
              rw [htk] at c2
              have hbel' : belows T.i.length (fs.map (·.2)) = true := by rw [sa.len]; exact hbel
              refine h (.ref (s.heap.objs.size + 1)) (Z.cut T.i) c1 c2 (.obj (dx := dx) (vs := vv) ?_ q2.split.1 (q2.split.2.cut saZ stTZ.pre hbel'))
              rw [cut_at sa stTZ saZ (Nat.le_refl _) hzi]
              exact q1
            · exact h.elim
          · exact h.elim
        · rename_i heq; cases heq
        · exact h.elim
    refine wpAny_call (make_map (f := f) I.kIn M.makes M.init (beq_iff_eq.mp M.fn) (codeAny_mono (hf.run _ X.stack _ _ ⟨Value.ref (s.heap.objs.size + 1) :: us, []⟩ (Value.ref (s.heap.objs.size + 1) :: (us ++ dsv)) _ _ _ (hr.make C us [])
      (I2.env0.make C us []) (hb1 _ (Value.ref (s.heap.objs.size + 1) :: us) I2.kIn hl2) r2 hsp) fun r s' hq' => ?_))
    cases r with
    | error e =>
      obtain ⟨a, B, sI, pins', σ', H', cls, d, e1, I', nb, up, sky, na, os, ag, e2, fl⟩ := XE.of_call I2 (W := fun c d σ' H => σ' = σ ∧ Fly X c d σ H) (fun cls d H' h => ⟨rfl, h⟩) hq'
      exact fl e s' ⟨a, B, sI, pins', σ', H', cls, d, e1, I', nb, up, sky, na, os, ag, rfl, rfl, e2, rfl⟩
    | ok fl =>
      cases fl with
      | ret u =>
        obtain ⟨v, H', I3, rv3, ev, q3⟩ := I2.after hq'
        subst ev
        exact ⟨rv3, ⟨V.ref (s.heap.objs.size + 1), H', I3, rfl, q3⟩⟩
      | next => exact False.elim hq'
      | brk => exact False.elim hq'
      | cont => exact False.elim hq'
  · exact (show False from h).elim
end
end DL

namespace DL
open PySem PySem.Spec PyProof.Rows L2
variable [LamTab]
inductive Tg where
  | prim (n : String)
  | own (C : Addr)
  deriving DecidableEq
def Tg.val : Tg → Value
  | .prim n => .type n
  | .own C => .ref C
def tagOf (m : Mu) : D → Option Tg
  | .non => some (.prim "NoneType")
  | .bl _ => some (.prim "bool")
  | .int _ => some (.prim "int")
  | .str _ => some (.prim "str")
  | .tup _ => some (.prim "tuple")
  | .lst _ => some (.prim "list")
  | .obj c _ => some (.own c.a)
  | .loc n => match m[n]? with
    | some (.lst _) => some (.prim "list")
    | some (.ins C _) => some (.own C)
    | _ => none
  | _ => none
structure InsK (K : PySem.W.Frag) (C : Addr) : Prop where
  cl : Cls K C
  ha : PySem.W.findIn K (.ref C) "__class__" = some (some (.builtin "object.__class__"))
  hn : PySem.W.specialIn K (.builtin "object.__class__") "__get__" = some (some (.builtin "getset_descriptor.__get__"))
  htk : PySem.W.takesIn K (.builtin "object.__class__") = some true
  hm : PySem.W.mroIn K C (.type "object") = some true
structure Ans where
  prim : List String
  own : List (Addr × Bool)
def primNames : List String := ["NoneType", "bool", "int", "str", "tuple", "list"]
def Ans.get (A : Ans) : Tg → Option Bool
  | .prim n => if n ∈ primNames then some (decide (n ∈ A.prim)) else none
  | .own C => A.own.lookup C
structure AnsOk (K : PySem.W.Frag) (A : Ans) (us : List Value) : Prop where
  prim : ∀ n ∈ primNames, PySem.W.kitAny K (.type n) us = some (decide (n ∈ A.prim))
  own : ∀ p ∈ A.own, PySem.W.kitAny K (.ref p.1) us = some p.2 ∧ InsK K p.1
theorem lookup_mem {α : Type} {C : Addr} {b : α} : ∀ {l : List (Addr × α)}, l.lookup C = some b → (C, b) ∈ l
  | (D, x) :: r, h => by
    rw [List.lookup_cons] at h
    cases hb : C == D with
    | true =>
      rw [hb] at h
      cases h
      rw [beq_iff_eq.mp hb]; exact List.mem_cons_self
    | false => rw [hb] at h; exact List.mem_cons_of_mem _ (lookup_mem h)
theorem kitOne_any {K : PySem.W.Frag} {t u : Value} {b : Bool} (h : PySem.W.kitAny K t [u] = some b) : PySem.W.kitOne K t u = some b := by
  unfold PySem.W.kitAny at h
  cases q : PySem.W.kitOne K t u with
  | none => rw [q] at h; cases h
  | some c =>
    rw [q] at h
    cases c with
    | true => cases h; rfl
    | false => cases h; rfl
section
variable {K : PySem.W.Frag} {S : Wd} {m : Mu}
theorem SqT.tyx {H : Hp} {a : Addr} {xs : List V} (h : SqT K H a xs) : TyX K H (.ref a) (.type "tuple") := by
  rcases h with (h | ⟨o, h⟩) | ⟨o, its, n, h, hc, _⟩
  · exact .base (.tup h)
  · exact .fTuple h
  · exact .kTuple h hc
theorem SqL.tyx {H : Hp} {a : Addr} {xs : List V} (h : SqL K H a xs) : TyX K H (.ref a) (.type "list") := by
  rcases h with (h | ⟨o, h⟩) | ⟨o, its, n, h, hc, _⟩
  · exact .base (.lst h)
  · exact .base (.frz h)
  · exact .kList h hc
theorem tag_ok {A : Ans} {us : List Value} (hA : AnsOk K A us) {d : D} {v : V} {t : Tg} {b : Bool} (sa : Sta K S m) (r : Rep K S.i S.F d v) (ht : tagOf m d = some t) (hb : A.get t = some b) : ∃ ty, TyX K S.H v ty ∧ PySem.W.kitAny K ty us = some b := by
  have pr : ∀ {n : String}, Tg.prim n = t → PySem.W.kitAny K (.type n) us = some b := fun {n} e => by
    subst e
    unfold Ans.get at hb
    dsimp only at hb
    split at hb
    · rename_i hn
      cases hb
      exact hA.prim n hn
    · cases hb
  have ow : ∀ {C : Addr}, Tg.own C = t → PySem.W.kitAny K (.ref C) us = some b ∧ InsK K C := fun {C} e => by
    subst e
    exact hA.own (C, b) (lookup_mem hb)
  cases r with
  | non => cases ht; exact ⟨_, .base .non, pr rfl⟩
  | bl x => cases ht; exact ⟨_, .base (.bl x), pr rfl⟩
  | int x => cases ht; exact ⟨_, .base (.int x), pr rfl⟩
  | str x => cases ht; exact ⟨_, .base (.str x), pr rfl⟩
  | tup h1 h2 => cases ht; exact ⟨_, SqT.tyx (SqT.ext' h1 sa.sub), pr rfl⟩
  | lst h1 h2 => cases ht; exact ⟨_, SqL.tyx (SqL.ext' h1 sa.sub), pr rfl⟩
  | obj h1 h2 h3 =>
    cases ht
    obtain ⟨k1, k2⟩ := ow rfl
    exact ⟨_, .base (.ins (sa.sub _ _ h1) k2.cl k2.ha k2.hn k2.htk k2.hm), k1⟩
  | @loc n a h =>
    unfold tagOf at ht
    dsimp only at ht
    split at ht
    · rename_i ds e
      cases ht
      obtain ⟨xs, q1, q2⟩ := sa.ok n a _ h e
      exact ⟨_, .base (.lst q1), pr rfl⟩
    · rename_i C fs e
      cases ht
      obtain ⟨dx, vs, q1, q2⟩ := sa.ok n a _ h e
      obtain ⟨k1, k2⟩ := ow rfl
      exact ⟨_, .base (.ins q1 k2.cl k2.ha k2.hn k2.htk k2.hm), k1⟩
    · cases ht
  | val v => cases ht
  | xob h1 h2 h3 => cases ht
  | lam h => cases ht
  | clo h h2 h3 => cases ht
end
section
variable {X : Cx} {a e o c : Expr} {es : List Expr} {ta : DE} {t : DA} {pos p q : Pos} {x : Str}
def dIsi (A : Ans) (ta : DE) : DE := fun e m => (ta e m).bind fun d m1 => match (tagOf m1 d).bind A.get with
  | some b => .ok (.bl b) m1
  | none => .stuck
theorem isi_fin {A : Ans} {us : List Value} (hA : AnsOk X.K A us) {d : D} {m : Mu} {T : Wd} {Q : VK} {W : XK} {v : V} (sa : Sta X.K T m) (rd : Rep X.K T.i T.F d v)
    (h : PostD X.K T (match (tagOf m d).bind A.get with
      | some b => .ok (.bl b) m
      | none => .stuck) Q W) : ∃ b ty, TyX X.K T.H v ty ∧ PySem.W.kitAny X.K ty us = some b ∧ ∀ Z, Stp T Z → Sta X.K Z m → Q (.bl b) Z.H := by
  cases q1 : tagOf m d with
  | none => rw [q1] at h; exact (show False from h).elim
  | some t =>
    rw [q1] at h
    cases q2 : A.get t with
    | none => rw [show (some t).bind A.get = A.get t from rfl, q2] at h; exact (show False from h).elim
    | some b =>
      rw [show (some t).bind A.get = A.get t from rfl, q2] at h
      obtain ⟨ty, k1, k2⟩ := tag_ok hA sa rd q1 q2
      exact ⟨b, ty, k1, k2, fun Z st sZ => h (.bl b) Z st sZ (.bl b)⟩
theorem pd_isi {A : Ans} {u : Value} {cv : V} (ha : PDE X a ta) (hcv : ClsV cv u) (hc : PDE X c (dC (.val cv))) (hA : AnsOk X.K A [u]) (hm : X.mg "isinstance" = none) (hg : Gl X "isinstance" := by rfl)
    (hs : starEach [a, c] X.env = (false, eval a X.env) :: starEach [c] X.env := by rfl) (hs2 : starEach [c] X.env = (false, eval c X.env) :: starEach [] X.env := by rfl) (hpl : (backTo pos (starEach [c] X.env)).any (·.1) = false := by rfl) :
    PDE X (.Call (.Name "isinstance" p) [a, c] [] pos) (dIsi A ta) := by
  refine pd_of (pe_callB call_isi hg hm (by decide +kernel) (pa_cons (mxE X a) (pa_cons (mxE X c) pa_nil hs2) hs) (by decide) (by decide) hs hpl) fun S r m σ Q sa re p => ?_
  refine ha S r m σ _ sa re (Post.bindI p fun d m1 v T st sa1 rd q => ?_)
  refine hc T r m1 σ _ sa1 (re.stp st) ?_
  intro w Z st2 sa2 rw
  cases rw
  obtain ⟨b, ty, k1, k2, k3⟩ := isi_fin hA sa2 (rd.stp st2) (Post.step st2 q)
  exact ⟨v, cv, ty, u, b, rfl, hcv, k1, kitOne_any k2, k3 Z (Stp.refl Z) sa2⟩
theorem pd_isiT {A : Ans} {us : List Value} {cvs : List V} {cs : List Expr} {kk : Nat} (ha : PDE X a ta) (hcv : Paired ClsV cvs us) (hc : PDA X cs (fun _ m => .ok (cvs.map .val) m)) (hl : cvs.length ≤ sizeLine) (hA : AnsOk X.K A us) (hm : X.mg "isinstance" = none) (hg : Gl X "isinstance" := by rfl)
    (hs : starEach [a, .Tuple cs kk q] X.env = (false, eval a X.env) :: starEach [.Tuple cs kk q] X.env := by rfl) (hs2 : starEach [.Tuple cs kk q] X.env = (false, eval (.Tuple cs kk q) X.env) :: starEach [] X.env := by rfl) (hpl : (backTo pos (starEach [.Tuple cs kk q] X.env)).any (·.1) = false := by rfl) :
    PDE X (.Call (.Name "isinstance" p) [a, .Tuple cs kk q] [] pos) (dIsi A ta) := by
  refine pd_of (pe_callB call_isiT hg hm (by decide +kernel) (pa_cons (mxE X a) (pa_cons (pe_tup (mxA X cs)) pa_nil hs2) hs) (by decide) (by decide) hs hpl) fun S r m σ Q sa re p => ?_
  refine ha S r m σ _ sa re (Post.bindI p fun d m1 v T st sa1 rd qq => ?_)
  refine hc T r m1 σ _ sa1 (re.stp st) ?_
  intro ws Z st2 sa2 rw
  have hws : ∀ {l : List V} {ws : List V}, Reps X.K Z.i Z.F (l.map D.val) ws → ws = l := by
    intro l
    induction l with
    | nil => intro ws r; cases r; rfl
    | cons y l ih =>
      intro ws r
      cases r with
      | cons h1 h2 => cases h1; rw [ih h2]
  have e := hws rw
  subst e
  refine ⟨hl, fun n hn => ?_⟩
  have st3 := Stp.new sa2 (o := .tup ws) hn
  have sa3 := sa2.new (o := .tup ws) hn
  obtain ⟨b, ty, k1, k2, k3⟩ := isi_fin hA sa3 ((rd.stp st2).stp st3) (Post.step (st2.trans st3) qq)
  exact ⟨v, n, ws, ty, us, b, rfl, upd_same, hcv, k1, k2, k3 _ (Stp.refl _) sa3⟩
def pick (pl : List Nat) (ds : List D) : Option (List D) := match pl with
  | [] => some []
  | i :: r => match ds[i]? with
    | some d => match pick r ds with
      | some xs => some (d :: xs)
      | none => none
    | none => none
structure BK (K : PySem.W.Frag) (fd : FuncData) (ps : List Str) (n : Nat) (ks : List Str) (pl : List Nat) (dds : List D) : Prop where
  ex : ∃ (ds : List Value) (dvs : List V), Vals dvs ds ∧ (∀ (i : List Addr) (F : Hp), Reps K i F dds dvs) ∧
    ∀ (s : Shared) (us ws : List Value), K.In s.heap → us.length = n → ws.length = ks.length → BindsTo s fd ⟨us, ks.zip ws⟩ (ps.zip (pl.filterMap fun i => (us ++ ws ++ ds)[i]?)) ∧ (pl.filterMap fun i => (us ++ ws ++ ds)[i]?).length = ps.length
theorem pick_reps {K : PySem.W.Frag} {ι : List Addr} {F : Hp} {ds : List D} {vs : List V} (r : Reps K ι F ds vs) : ∀ {pl : List Nat} {xs : List D}, pick pl ds = some xs → Reps K ι F xs (pl.filterMap fun i => vs[i]?)
  | [], xs, h => by cases h; exact .nil
  | i :: pl, xs, h => by
    unfold pick at h
    cases q : ds[i]? with
    | none => rw [q] at h; cases h
    | some d =>
      cases q2 : pick pl ds with
      | none => rw [q, q2] at h; cases h
      | some ys =>
        rw [q, q2] at h; cases h
        obtain ⟨v, hv, rv⟩ := r.get q
        rw [List.filterMap_cons, hv]
        exact .cons rv (pick_reps r q2)
theorem vals_pick {vs : List V} {us : List Value} (r : Vals vs us) : ∀ (pl : List Nat), Vals (pl.filterMap fun i => vs[i]?) (pl.filterMap fun i => us[i]?)
  | [] => .nil
  | i :: pl => by
    rw [List.filterMap_cons, List.filterMap_cons]
    cases q : vs[i]? with
    | none =>
      rw [r.none_of q]
      exact vals_pick r pl
    | some v =>
      obtain ⟨u, hu, ru⟩ := r.get q
      rw [hu]
      exact .cons ru (vals_pick r pl)
def PDK (X : Cx) (kws : List Keyword) (t : DA) : Prop := ∀ S r m σ Q, Sta X.K S m → RelE X.K S r σ → PostL X.K S (t r m) Q (fun c d H => Fly X c d σ H) →
  ∀ (pos : Pos) (pins : List (Addr × Obj)) (s : Shared), Inv X pins σ S.H s → wpAny (model X.prog X.w) X.A (evalAll ((backToKw pos (keywordEach kws X.env)).map (·.2))) (AP X pins σ Q) X.xe s
theorem pdk_nil : PDK X [] dNil := fun S r m σ Q sa re p pos pins s I => (pk_nil (X := X)).run pos pins s σ S.H Q I (Post.ok p (Stp.refl S) sa .nil)
theorem pdk_cons {nm : Option Str} {kpos : Pos} {kws : List Keyword} (ha : PDE X a ta) (hr : PDK X kws t) : PDK X (⟨nm, a, kpos⟩ :: kws) (dCons ta t) := by
  intro S r m σ Q sa re p pos pins s I
  refine (pk_cons (mxE X a) (t := fun σ H Q => ∀ (pos : Pos) (pins : List (Addr × Obj)) (s : Shared), Inv X pins σ H s → wpAny (model X.prog X.w) X.A (evalAll ((backToKw pos (keywordEach kws X.env)).map (·.2))) (AP X pins σ Q) X.xe s) ⟨fun pos pins s σ H Q I h => h pos pins s I⟩).run pos pins s σ S.H Q I ?_
  refine ha S r m σ _ sa re (Post.bindI p fun d m1 v T st sa1 rd q => ?_)
  refine hr T r m1 σ _ sa1 (re.stp st) (Post.bindI q fun ds m2 vs U st2 sa2 rds q2 => ?_)
  exact Post.ok q2 (Stp.refl U) sa2 (.cons (rd.stp st2) rds)
def dFunK (G : DFn) (n nk : Nat) (t u : DA) : DE := fun e m => (t e m).bind fun ds m1 => (u e m1).bind fun zs m2 => if ds.length = n ∧ zs.length = nk then G (ds ++ zs) m2 else .stuck
theorem PDK.run {γ δ : Type} {R' : Wd → γ → δ → Prop} {kws : List Keyword} (ha : PDK X kws t) {S : Wd} {r : En} {m : Mu} {σ : L2.St} {f : List D → Mu → Res γ} {Q : δ → Hp → Prop} (sa : Sta X.K S m) (re : RelE X.K S r σ)
    (p : Post R' X.K S ((t r m).bind f) Q (fun c d H => Fly X c d σ H)) {pins : List (Addr × Obj)} {s : Shared} (I : Inv X pins σ S.H s) (pos : Pos) :
    wpAny (model X.prog X.w) X.A (evalAll ((backToKw pos (keywordEach kws X.env)).map (·.2))) (fun us s1 => ∃ (xs : List V) (ds : List D) (m1 : Mu) (T : Wd), Stp S T ∧ Sta X.K T m1 ∧ Reps X.K T.i T.F ds xs ∧ Vals xs us ∧ Inv X pins σ T.H s1 ∧ Post R' X.K T (f ds m1) Q (fun c d H => Fly X c d σ H)) X.xe s := by
  refine thn (ha S r m σ _ sa re (Post.bindI p (Q' := fun v H => ∃ d m1 T, H = T.H ∧ Stp S T ∧ Sta X.K T m1 ∧ Reps X.K T.i T.F d v ∧ Post R' X.K T (f d m1) Q (fun c d H => Fly X c d σ H)) fun d m1 v T st sa1 r1 q => ⟨d, m1, T, rfl, st, sa1, r1, q⟩) pos pins s I) ?_
  rintro us s1 ⟨xs, H1, I1, r1, d, m1, T, rfl, st, sa1, rd, q⟩
  exact ⟨xs, d, m1, T, st, sa1, rd, r1, I1, q⟩
end
end DL

namespace DL
open PySem PySem.Spec PyProof.Rows L2
variable [LamTab]
section
variable {P : Program} {w : World} {K : PySem.W.Frag} {mg : Str → Option Value} {base : Heap}
theorem MT.mono {j k : Nat} {mn : Str} {C : Addr} {G : DFn} (h : MT P w K mg base j mn C G) (hk : j ≤ k) : MT P w K mg base k mn C G := by
  obtain ⟨f, fd, ps, dds, G0, h1, h2, h3, h4, h5, h6⟩ := h.ex
  exact ⟨f, fd, ps, dds, G0, h1, h2, h3, h4.mono hk, h5, h6⟩
theorem bd_of {fd : FuncData} {ps : List Str} {dvs : List V} {dds : List D} (h : ∃ ds, Vals dvs ds ∧ Binds K fd ps ds) (r : ∀ (i : List Addr) (F : Hp), Reps K i F dds dvs) : Bd K fd ps dds := by
  obtain ⟨ds, h1, h2⟩ := h
  exact ⟨ds, dvs, h2, h1, r⟩
theorem dfl_nil {dV : Value} (h : DflV K dV []) : dV = .none := by
  rcases h with ⟨_, h⟩ | ⟨h, _⟩
  · exact h
  · exact absurd rfl h
theorem pdss_stuck {X : Cx} {sts : List Stmt} : PDSs X sts dStuck := fun S r m σ N sa re p => p.elim
theorem fnD_none {x qual : Str} {params : Arguments} {body : List Stmt} {scope : Scope} {dvs : List V} {kws : List (Str × V)} {f : Addr} {fd : FuncData} {N ps : List Str} (F : FunD K x qual params body scope dvs kws f fd) (S : FnScope N ps scope) :
    FnD P w K mg base 1 f fd ps (fun _ _ => .stuck) := FnD.imp' (fnD_of (k := 0) (t := dStuck) F S fun cdv A outer s H E hr => pdss_stuck) fun ds m h => absurd rfl h
def noTbl (H : Hp) : Hp := fun b => match H b with
  | some (.tbl _) => none
  | o => o
def spLaw (K : PySem.W.Frag) : Sp := fun vs H Q _ => ∃ (a : Addr) (ns : List Int), vs = [.ref a] ∧ SqL K H a (ns.map V.int) ∧ ns.length ≤ 63 ∧ (∀ p ∈ LamTab.tbls K, H p.1 = some (.tbl #[])) ∧ ∀ H', Q (.bl true) H'
theorem reps_ints {ι : List Addr} {F : Hp} : ∀ (ns : List Int), Reps K ι F (ns.map D.int) (ns.map V.int)
  | [] => .nil
  | n :: ns => .cons (.int n) (reps_ints ns)
theorem law_sp {k : Nat} {f : Addr} {fd : FuncData} {x : Str} {F : DFn} (h : FnD P w K mg base k f fd [x] F) (ht : ∀ ns : List Int, ns.length ≤ 63 → ∃ m, F [.lst (ns.map .int)] [] = .ok (.bl true) m) : FnOk P w K mg base (L2.CX P w) k f fd [x] (spLaw K) := by
  refine FnOk.imp h fun vs H Q E hs => ?_
  obtain ⟨a, ns, rfl, hS, hl, hT, hq⟩ := hs
  obtain ⟨m, e⟩ := ht ns hl
  have ex : Ext (noTbl H) H := fun b o e => by
    unfold noTbl at e
    split at e
    · cases e
    · exact e
  have hS' : SqL K (noTbl H) a (ns.map V.int) := by
    rcases hS with (h | ⟨o, h⟩) | h
    · exact .inl (.inl (by unfold noTbl; rw [h]))
    · exact .inl (.inr ⟨o, by unfold noTbl; rw [h]⟩)
    · exact .inr h
  refine ⟨rfl, ⟨[], noTbl H, H⟩, [], [.lst (ns.map .int)], rfl, ⟨List.nodup_nil, rfl, ex, fun a h => (nomatch h), fun a h => (nomatch h), fun n a o h => by simp at h, fun p hp => ⟨#[], hT p hp, by show noTbl H p.1 = none; unfold noTbl; rw [hT p hp], (fun z => nomatch z), True.intro, fun pos cv hc => by
      have z : codeAmong pos [] = some cv := hc
      simp [codeAmong] at z⟩⟩, .cons (.lst hS' (reps_ints ns)) .nil, ?_⟩
  rw [e]
  intro v T st sa r
  cases r
  exact hq _
theorem nofly {outer : List Env} {H : Hp} {s s' : Shared} {e : Value} (z : L2.CX P w outer H s (fun _ _ _ => False) e s') : False := by
  obtain ⟨_, _, _, _, _, _, _, _, _, _, _, _, z⟩ := z
  exact z
end
section
variable {X : Cx} {a b c : Expr} {ta tb tc : DE} {t : DA} {pos : Pos}
def dPar3 (i j l : Nat) (t : DA) : DS := fun e m => match t e m with
  | .ok [x, y, z] m1 => .nx (((e.set i (some x)).set j (some y)).set l (some z)) m1
  | .exc C fs m1 => .exc C fs e m1
  | _ => .stuck
theorem reps3 {K : PySem.W.Frag} {i : List Addr} {F : Hp} {d e f : D} {xs : List V} (r : Reps K i F [d, e, f] xs) : ∃ u v w, xs = [u, v, w] ∧ Rep K i F d u ∧ Rep K i F e v ∧ Rep K i F f w := by
  cases r with
  | cons h r => obtain ⟨v, w, rfl, h2, h3⟩ := reps2 r; exact ⟨_, v, w, rfl, h, h2, h3⟩
theorem pds_par3 {i j l : Nat} {x y z : Str} {px py pz pt : Pos} {kt k2 pt2} (ha : PDA X [a, b, c] t) (hc : X.calm = true) (hN : X.N.Nodup)
    (hw : swappedStores [.Tuple [.Name x px, .Name y py, .Name z pz] kt pt] (.Tuple [a, b, c] k2 pt2) X.env = pure (some [x, y, z]) := by rfl) (hi : X.N[i]? = some x := by rfl) (hj : X.N[j]? = some y := by rfl) (hl : X.N[l]? = some z := by rfl) (hij : i ≠ j := by decide) (hil : i ≠ l := by decide) (hjl : j ≠ l := by decide)
    (hx : X.env.scope.names.lookup x = some .local := by rfl) (hy : X.env.scope.names.lookup y = some .local := by rfl) (hz : X.env.scope.names.lookup z = some .local := by rfl)
    (hs : swapsWithSole [.Tuple [.Name x px, .Name y py, .Name z pz] kt pt] (.Tuple [a, b, c] k2 pt2) pos.line X.env = pure false := by rfl) :
    PDS X (.Assign [.Tuple [.Name x px, .Name y py, .Name z pz] kt pt] (.Tuple [a, b, c] k2 pt2) pos) (dPar3 i j l t) := by
  refine ps_of (ps_par3 hc hN hi hj hl hij hil hjl hx hy hz (mxA X _) hw hs) fun S r m σ N sa re p => ha S r m σ _ sa re ?_
  unfold dPar3 at p
  cases q : t r m with
  | stuck => rw [q] at p; exact p
  | exc C fs m1 => rw [q] at p; exact fun dd vs T st hn sa1 h1 h2 => p dd vs σ T st hn sa1 (re.stp st) h1 h2
  | ok ds m1 =>
    rw [q] at p
    intro vs T st sa1 rds
    split at p
    · rename_i d1 d2 d3 m2 heq
      cases heq
      obtain ⟨u, v, w, rfl, r1, r2, r3⟩ := reps3 rds
      exact ⟨u, v, w, rfl, p _ T st sa1 ((((re.stp st).set i r1).set j r2).set l r3)⟩
    · rename_i heq; cases heq
    · exact p.elim
end
end DL

namespace DL
open PySem PySem.Spec PyProof.Rows L2
variable [LamTab]
section
@[simp ↓] theorem dVar_ap (i : Nat) (e : En) (m : Mu) : dVar  i e m = match e[i]? with
  | some (some d) => .ok d m
  | _ => .stuck := rfl
@[simp ↓] theorem dC_ap (d : D) (x_0 : En) (m : Mu) : dC  d x_0 m = .ok d m := rfl
@[simp ↓] theorem dBin_ap (f : D2) (a b : DE) (e : En) (m : Mu) : dBin  f a b e m = (a e m).bind fun x m1 => (b e m1).bind fun y m2 => f x y m2 := rfl
@[simp] theorem orD_ap (f g : D2) (x : D) (y : D) (m : Mu) : orD  f g x y m = match f x y m with
  | .stuck => g x y m
  | r => r := rfl
@[simp ↓] theorem dTst_ap (t : DE) (e : En) (m : Mu) : dTst  t e m = (t e m).bind fun d m => match d with
  | .bl b => .ok b m
  | _ => .stuck := rfl
@[simp ↓] theorem dTr_ap (t : DE) (e : En) (m : Mu) : dTr  t e m = (t e m).bind fun d m => match dTru m d with
  | some b => .ok b m
  | none => .stuck := rfl
@[simp ↓] theorem dNotT_ap (t : DT) (e : En) (m : Mu) : dNotT  t e m = (t e m).bind fun b m => .ok (!b) m := rfl
@[simp ↓] theorem dAndT_ap (t u : DT) (e : En) (m : Mu) : dAndT  t u e m = (t e m).bind fun b m => if b then u e m else .ok false m := rfl
@[simp ↓] theorem dOrT_ap (t u : DT) (e : En) (m : Mu) : dOrT  t u e m = (t e m).bind fun b m => if b then .ok true m else u e m := rfl
@[simp ↓] theorem dAnd_ap (t u : DE) (e : En) (m : Mu) : dAnd  t u e m = (t e m).bind fun d m => match d with
  | .bl true => u e m
  | .bl false => .ok (.bl false) m
  | _ => .stuck := rfl
@[simp ↓] theorem dOr_ap (t u : DE) (e : En) (m : Mu) : dOr  t u e m = (t e m).bind fun d m => match d with
  | .bl false => u e m
  | .bl true => .ok (.bl true) m
  | _ => .stuck := rfl
@[simp ↓] theorem dNot_ap (t : DE) (e : En) (m : Mu) : dNot  t e m = (t e m).bind fun d m => match d with
  | .bl b => .ok (.bl !b) m
  | _ => .stuck := rfl
@[simp ↓] theorem dIf_ap (t : DT) (u w : DE) (e : En) (m : Mu) : dIf  t u w e m = (t e m).bind fun b m => if b then u e m else w e m := rfl
@[simp ↓] theorem dChain_ap (g h : D2) (ta tb tc : DE) (e : En) (m : Mu) : dChain  g h ta tb tc e m = (ta e m).bind fun x m1 => (tb e m1).bind fun y m2 => (g x y m2).bind fun z m3 => match z with
  | .bl true => (tc e m3).bind fun w m4 => h y w m4
  | .bl false => .ok (.bl false) m3
  | _ => .stuck := rfl
@[simp ↓] theorem dNil_ap (x_0 : En) (m : Mu) : dNil  x_0 m = .ok [] m := rfl
@[simp ↓] theorem dCons_ap (t : DE) (u : DA) (e : En) (m : Mu) : dCons  t u e m = (t e m).bind fun d m1 => (u e m1).bind fun ds m2 => .ok (d :: ds) m2 := rfl
@[simp ↓] theorem dTup_ap (t : DA) (e : En) (m : Mu) : dTup  t e m = (t e m).bind fun ds m1 => if ds.length ≤ sizeLine then .ok (.tup ds) m1 else .stuck := rfl
@[simp ↓] theorem dLst_ap (t : DA) (e : En) (m : Mu) : dLst  t e m = (t e m).bind fun ds m1 => if ds.length ≤ sizeLine then .ok (.lst ds) m1 else .stuck := rfl
@[simp ↓] theorem dLoc_ap (t : DA) (e : En) (m : Mu) : dLoc  t e m = (t e m).bind fun ds m1 => if ds.length ≤ sizeLine then .ok (.loc m1.length) (m1 ++ [.lst ds]) else .stuck := rfl
@[simp ↓] theorem dFn_ap (N : Nat) (body : DS) (ds : List D) (m : Mu) : dFn  N body ds m = match body (env0 N ds) m with
  | .nx _ m1 => .ok .non m1
  | .rt d m1 => .ok d m1
  | .exc C fs _ m1 => .exc C fs m1
  | _ => .stuck := rfl
@[simp ↓] theorem dFld_ap (rows : List (Kl × Nat)) (t : DE) (e : En) (m : Mu) : dFld  rows t e m = (t e m).bind fun d m1 => match insOf m1 d with
  | some (C, ns, ds) => match fldAt rows C ns ds with
    | some x => .ok x m1
    | none => .stuck
  | none => .stuck := rfl
@[simp] theorem padF_ap (n : Nat) (dds : List D) (G : DFn) (ds : List D) (m : Mu) : padF  n dds G ds m = if (ds ++ dds).length = n then G (ds ++ dds) m else .stuck := rfl
@[simp ↓] theorem dFun_ap (G : DFn) (t : DA) (e : En) (m : Mu) : dFun  G t e m = (t e m).bind G := rfl
@[simp ↓] theorem dMeth_ap (rows : List (Kl × DFn)) (to : DE) (t : DA) (e : En) (m : Mu) : dMeth  rows to t e m = (to e m).bind fun o m1 => match insOf m1 o with
  | some (C, ns, _) => match methAt rows C ns with
    | some G => (t e m1).bind fun ds m2 => G (o :: ds) m2
    | none => .stuck
  | none => .stuck := rfl
@[simp ↓] theorem dProp_ap (rows : List (Kl × DFn)) (to : DE) (e : En) (m : Mu) : dProp  rows to e m = (to e m).bind fun o m1 => match insOf m1 o with
  | some (C, ns, _) => match methAt rows C ns with
    | some G => noExc (G [o] m1)
    | none => .stuck
  | none => .stuck := rfl
@[simp ↓] theorem dOwn2_ap (C : Addr) (G : DFn) (x : D) (y : D) (m : Mu) : dOwn2  C G x y m = match insOf m x, insOf m y with
  | some (C1, _, _), some (C2, _, _) => if C1 = C ∧ C2 = C then G [x, y] m else .stuck
  | _, _ => .stuck := rfl
@[simp ↓] theorem dNeg_ap (C : Addr) (G : DFn) (t : DE) (e : En) (m : Mu) : dNeg  C G t e m = (t e m).bind fun x m1 => match x with
  | .int i => .ok (.int (-i)) m1
  | _ => match insOf m1 x with
    | some (C1, _, _) => if C1 = C then G [x] m1 else .stuck
    | none => .stuck := rfl
@[simp ↓] theorem dNegI_ap (t : DE) (e : En) (m : Mu) : dNegI  t e m = (t e m).bind fun x m1 => match x with
  | .int i => .ok (.int (-i)) m1
  | _ => .stuck := rfl
@[simp] theorem gI2_ap (C : Int → Int → Bool) (k : Int → Int → D) (x : D) (y : D) (m : Mu) : gI2  C k x y m = match x with
  | .int i => match y with
    | .int j => if C i j then .ok (k i j) m else .stuck
    | _ => .stuck
  | _ => .stuck := rfl
@[simp] theorem gI0_ap (k : Int → Int → D) (x : D) (y : D) (m : Mu) : gI0  k x y m = match x with
  | .int i => match y with
    | .int j => .ok (k i j) m
    | _ => .stuck
  | _ => .stuck := rfl
@[simp] theorem gAddS_ap (x : D) (y : D) (m : Mu) : gAddS  x y m = match x with
  | .str a => match y with
    | .str b => if a.length + b.length ≤ sizeLine then .ok (.str (a ++ b)) m else .stuck
    | _ => .stuck
  | _ => .stuck := rfl
@[simp] theorem gIsN_ap (x : D) (y : D) (m : Mu) : gIsN  x y m = match y with
  | .non => match x with
    | .non => .ok (.bl true) m
    | .val _ => .stuck
    | _ => .ok (.bl false) m
  | _ => .stuck := rfl
@[simp] theorem gNotN_ap (x : D) (y : D) (m : Mu) : gNotN  x y m = match y with
  | .non => match x with
    | .non => .ok (.bl false) m
    | .val _ => .stuck
    | _ => .ok (.bl true) m
  | _ => .stuck := rfl
@[simp] theorem gEqD_ap (neg : Bool) (x : D) (y : D) (m : Mu) : gEqD  neg x y m = match pyOf m x, pyOf m y with
  | some d, some e => if SeqAt.shaped d && SeqAt.shaped e then .ok (.bl (neg ^^ PyData.eqv d e)) m else .stuck
  | _, _ => .stuck := rfl
@[simp] theorem gEqS_ap (neg : Bool) (x : D) (y : D) (m : Mu) : gEqS  neg x y m = match scEq x y with
  | some b => .ok (.bl (neg ^^ b)) m
  | none => .stuck := rfl
@[simp] theorem gInQ_ap (neg : Bool) (x : D) (y : D) (m : Mu) : gInQ  neg x y m = match toV x, (seqA m y).bind toVs with
  | some v, some vs => .ok (.bl (neg ^^ inV v vs)) m
  | _, _ => .stuck := rfl
@[simp] theorem gInS_ap (neg : Bool) (x : D) (y : D) (m : Mu) : gInS  neg x y m = match x with
  | .str a => match y with
    | .str b => .ok (.bl (neg ^^ occurs a b)) m
    | _ => .stuck
  | _ => .stuck := rfl
@[simp] theorem gAbs_ap (ds : List D) (m : Mu) : gAbs  ds m = match ds with
  | [.int i] => .ok (.int (if i < 0 then -i else i)) m
  | _ => .stuck := rfl
@[simp] theorem gInt_ap (ds : List D) (m : Mu) : gInt  ds m = match ds with
  | [.int i] => .ok (.int i) m
  | [.bl b] => .ok (.int (if b then 1 else 0)) m
  | _ => .stuck := rfl
@[simp] theorem gBool_ap (ds : List D) (m : Mu) : gBool  ds m = match ds with
  | [.int i] => .ok (.bl (i != 0)) m
  | [.bl b] => .ok (.bl b) m
  | _ => .stuck := rfl
@[simp] theorem gMin2_ap (ds : List D) (m : Mu) : gMin2  ds m = match ds with
  | [.int i, .int j] => .ok (.int (if j < i then j else i)) m
  | _ => .stuck := rfl
@[simp] theorem gMax2_ap (ds : List D) (m : Mu) : gMax2  ds m = match ds with
  | [.int i, .int j] => .ok (.int (if j > i then j else i)) m
  | _ => .stuck := rfl
@[simp] theorem gStrI_ap (ds : List D) (m : Mu) : gStrI  ds m = match ds with
  | [.int i] => if i.natAbs.log2 < 1920 then .ok (.str (toString i)) m else .stuck
  | _ => .stuck := rfl
@[simp] theorem gLen_ap (ds : List D) (m : Mu) : gLen  ds m = match ds with
  | [.str x] => if x.length ≤ sizeLine then .ok (.int x.length) m else .stuck
  | [d] => match seqA m d with
    | some ds => .ok (.int ds.length) m
    | none => .stuck
  | _ => .stuck := rfl
@[simp] theorem gList_ap (ds : List D) (m : Mu) : gList  ds m = match ds with
  | [d] => match seqA m d with
    | some es => .ok (.lst es) m
    | none => .stuck
  | _ => .stuck := rfl
@[simp] theorem gListM_ap (ds : List D) (m : Mu) : gListM  ds m = match ds with
  | [d] => match seqA m d with
    | some es => .ok (.loc m.length) (m ++ [.lst es])
    | none => .stuck
  | _ => .stuck := rfl
@[simp] theorem gAll_ap (ds : List D) (m : Mu) : gAll  ds m = match ds with
  | [d] => match (seqL m d).bind toBs with
    | some bs => .ok (.bl (bs.all _root_.id)) m
    | none => .stuck
  | _ => .stuck := rfl
@[simp] theorem gAny_ap (ds : List D) (m : Mu) : gAny  ds m = match ds with
  | [d] => match (seqL m d).bind toBs with
    | some bs => .ok (.bl (bs.any _root_.id)) m
    | none => .stuck
  | _ => .stuck := rfl
@[simp ↓] theorem dNoPart_ap (x_0 : En) (m : Mu) : dNoPart  x_0 m = .ok none m := rfl
@[simp ↓] theorem dPart_ap (t : DE) (e : En) (m : Mu) : dPart  t e m = (t e m).bind fun d m1 => match d with
  | .int i => .ok (some i) m1
  | _ => .stuck := rfl
@[simp ↓] theorem dSl_ap (t : DE) (lo hi : DO) (e : En) (m : Mu) : dSl  t lo hi e m = (t e m).bind fun d m1 => (lo e m1).bind fun l m2 => (hi e m2).bind fun h m3 => match seqL m3 d with
  | some ds => .ok (.lst (cutD ds l h)) m3
  | none => .stuck := rfl
@[simp ↓] theorem dSeq_ap (t u : DS) (e : En) (m : Mu) : dSeq  t u e m = match t e m with
  | .nx e1 m1 => u e1 m1
  | r => r := rfl
@[simp ↓] theorem dSkip_ap (e : En) (m : Mu) : dSkip  e m = .nx e m := rfl
@[simp ↓] theorem dRet_ap (t : DE) (e : En) (m : Mu) : dRet  t e m = rsOf e (t e m) fun d m1 => .rt d m1 := rfl
@[simp ↓] theorem dStuck_ap (x_0 : En) (x_1 : Mu) : dStuck  x_0 x_1 = .stuck := rfl
@[simp ↓] theorem dDrop_ap (t : DE) (e : En) (m : Mu) : dDrop  t e m = rsOf e (t e m) fun _ m1 => .nx e m1 := rfl
@[simp ↓] theorem dSet_ap (i : Nat) (t : DE) (e : En) (m : Mu) : dSet  i t e m = rsOf e (t e m) fun d m1 => .nx (e.set i (some d)) m1 := rfl
@[simp ↓] theorem dIfS_ap (t : DT) (u w : DS) (e : En) (m : Mu) : dIfS  t u w e m = rsOfB e (t e m) fun b m1 => if b then u e m1 else w e m1 := rfl
@[simp ↓] theorem dName_ap (i : Nat) (d : D) (e : En) : dName  i d e = some (e.set i (some d)) := rfl
@[simp ↓] theorem dGnil_ap (ds : List D) (e : En) : dGnil  ds e = match ds with
  | [] => some e
  | _ => none := rfl
@[simp ↓] theorem dGcons_ap (g : DG) (h : List D → En → Option En) (ds : List D) (e : En) : dGcons  g h ds e = match ds with
  | d :: r => (g d e).bind fun e1 => h r e1
  | [] => none := rfl
@[simp ↓] theorem dTupG_ap (n : Nat) (g : List D → En → Option En) (d : D) (e : En) : dTupG  n g d e = match d with
  | .tup ds => if ds.length = n then g ds e else none
  | _ => none := rfl
@[simp ↓] theorem dAsg_ap (t : DE) (g : DG) (e : En) (m : Mu) : dAsg  t g e m = rsOf e (t e m) fun d m1 => match g d e with
  | some e1 => .nx e1 m1
  | none => .stuck := rfl
@[simp ↓] theorem dPar_ap (i j : Nat) (t : DA) (e : En) (m : Mu) : dPar  i j t e m = match t e m with
  | .ok [x, y] m1 => .nx ((e.set i (some x)).set j (some y)) m1
  | .exc C fs m1 => .exc C fs e m1
  | _ => .stuck := rfl
@[simp ↓] theorem dItL_ap (t : DE) (e : En) (m : Mu) : dItL  t e m = (t e m).bind fun d m1 => match d with
  | .lst ds => .ok ds m1
  | _ => .stuck := rfl
@[simp ↓] theorem dItT_ap (t : DE) (e : En) (m : Mu) : dItT  t e m = (t e m).bind fun d m1 => match d with
  | .tup ds => .ok ds m1
  | _ => .stuck := rfl
@[simp ↓] theorem dItR1_ap (t : DA) (e : En) (m : Mu) : dItR1  t e m = (t e m).bind fun ds m1 => match ds with
  | [.int j] => if -(2 ^ 62) ≤ j ∧ j < 2 ^ 62 then .ok (rngD 0 j.toNat) m1 else .stuck
  | _ => .stuck := rfl
@[simp ↓] theorem dItR2_ap (t : DA) (e : En) (m : Mu) : dItR2  t e m = (t e m).bind fun ds m1 => match ds with
  | [.int i, .int j] => if -(2 ^ 62) ≤ i ∧ i < 2 ^ 62 ∧ -(2 ^ 62) ≤ j ∧ j < 2 ^ 62 then .ok (rngD i (j - i).toNat) m1 else .stuck
  | _ => .stuck := rfl
@[simp ↓] theorem dItE_ap (t : DA) (e : En) (m : Mu) : dItE  t e m = (t e m).bind fun ds m1 => match ds with
  | [.lst es] => .ok ((List.range es.length).zipWith (fun k d => .tup [.int (k : Nat), d]) es) m1
  | _ => .stuck := rfl
@[simp ↓] theorem dItZ_ap (t : DA) (e : En) (m : Mu) : dItZ  t e m = (t e m).bind fun ds m1 => match ds with
  | [.lst xs, .lst ys] => .ok (xs.zipWith (fun x y => .tup [x, y]) ys) m1
  | [.tup xs, .tup ys] => .ok (xs.zipWith (fun x y => .tup [x, y]) ys) m1
  | _ => .stuck := rfl
@[simp ↓] theorem dFor_ap (t : DA) (g : DG) (b : DS) (e : En) (m : Mu) : dFor  t g b e m = match t e m with
  | .ok ds m1 => dLoop g b ds e m1
  | .exc C fs m1 => .exc C fs e m1
  | .stuck => .stuck := rfl
@[simp ↓] theorem dComp_ap (t : DA) (g : DG) (c : DT) (b : DE) (own : List Nat) (e : En) (m : Mu) : dComp  t g c b own e m = (t e m).bind fun ds m1 => (dCompL g c b (wipeE e own) ds m1 []).bind fun xs m2 => .ok (.lst xs) m2 := rfl
@[simp ↓] theorem dYes_ap (x_0 : En) (m : Mu) : dYes  x_0 m = .ok true m := rfl
@[simp ↓] theorem dPutI_ap (tv to ti : DE) (e : En) (m : Mu) : dPutI  tv to ti e m = rsOf e (tv e m) fun v m1 => rsOf e (to e m1) fun o m2 => rsOf e (ti e m2) fun i m3 => match o, i with
  | .loc n, .int k => match m3[n]? with
    | some (.lst ds) => match ixN ds.length k with
      | some j => .nx e (m3.set n (.lst (ds.set j v)))
      | none => .stuck
    | _ => .stuck
  | _, _ => .stuck := rfl
@[simp ↓] theorem dPutF_ap (Cs : List Addr) (f : Str) (tv to : DE) (e : En) (m : Mu) : dPutF  Cs f tv to e m = rsOf e (tv e m) fun v m1 => rsOf e (to e m1) fun o m2 => match o with
  | .loc n => match m2[n]? with
    | some (.ins C fs) => if C ∈ Cs ∧ fs.length < 1000 then .nx e (m2.set n (.ins C (putD f v fs))) else .stuck
    | _ => .stuck
  | _ => .stuck := rfl
@[simp ↓] theorem dIsi_ap (A : Ans) (ta : DE) (e : En) (m : Mu) : dIsi  A ta e m = (ta e m).bind fun d m1 => match (tagOf m1 d).bind A.get with
  | some b => .ok (.bl b) m1
  | none => .stuck := rfl
@[simp ↓] theorem dFunK_ap (G : DFn) (n nk : Nat) (t u : DA) (e : En) (m : Mu) : dFunK  G n nk t u e m = (t e m).bind fun ds m1 => (u e m1).bind fun zs m2 => if ds.length = n ∧ zs.length = nk then G (ds ++ zs) m2 else .stuck := rfl
@[simp ↓] theorem dPar3_ap (i j l : Nat) (t : DA) (e : En) (m : Mu) : dPar3  i j l t e m = match t e m with
  | .ok [x, y, z] m1 => .nx (((e.set i (some x)).set j (some y)).set l (some z)) m1
  | .exc C fs m1 => .exc C fs e m1
  | _ => .stuck := rfl
@[simp ↓] theorem bind_pre {α β : Type} (r : Res α) (f : α → Mu → Res β) : r.bind f = match r with
  | .stuck => .stuck
  | .ok a m => f a m
  | .exc C fs m => .exc C fs m := rfl
@[simp ↓] theorem rsOf_pre (e : En) (r : Res D) (k : D → Mu → RS) : rsOf e r k = match r with
  | .stuck => .stuck
  | .ok d m => k d m
  | .exc C fs m => .exc C fs e m := rfl
@[simp ↓] theorem rsOfB_pre (e : En) (r : Res Bool) (k : Bool → Mu → RS) : rsOfB e r k = match r with
  | .stuck => .stuck
  | .ok d m => k d m
  | .exc C fs m => .exc C fs e m := rfl
@[simp] theorem gIx_lst (m : Mu) (ds : List D) (i : Int) : gIx (.lst ds) (.int i) m = match atI ds i with
  | some d => .ok d m
  | none => .stuck := rfl
@[simp] theorem gIx_tup (m : Mu) (ds : List D) (i : Int) : gIx (.tup ds) (.int i) m = match atI ds i with
  | some d => .ok d m
  | none => .stuck := rfl
@[simp] theorem gEq_int (m : Mu) (i j : Int) : gEq (.int i) (.int j) m = .ok (.bl (decide (i = j))) m := by simp [gEq, scEq]
@[simp] theorem gNe_int (m : Mu) (i j : Int) : gNe (.int i) (.int j) m = .ok (.bl (!decide (i = j))) m := by simp [gNe, scEq]
@[simp] theorem gEq_bl (m : Mu) (i j : Bool) : gEq (.bl i) (.bl j) m = .ok (.bl (i == j)) m := by simp [gEq, scEq]
@[simp] theorem gNe_bl (m : Mu) (i j : Bool) : gNe (.bl i) (.bl j) m = .ok (.bl (!(i == j))) m := by simp [gNe, scEq]
@[simp] theorem gEq_str (m : Mu) (i j : Str) : gEq (.str i) (.str j) m = .ok (.bl (decide (i = j))) m := by simp [gEq, scEq]
@[simp] theorem gNe_str (m : Mu) (i j : Str) : gNe (.str i) (.str j) m = .ok (.bl (!decide (i = j))) m := by simp [gNe, scEq]
@[simp] theorem powOk_def (i j : Int) : powOk i j = decide (0 ≤ j ∧ j ≤ 1000000 ∧ i.natAbs < 2 ^ 64) := rfl
@[simp] theorem ixN_lit (n : Nat) (i : Nat) : ixN n (no_index (@OfNat.ofNat Int i _)) = if i < n then some i else none := by
  have e : (@OfNat.ofNat Int i _) = (i : Int) := rfl
  unfold ixN
  rw [e, if_pos (by omega)]
  by_cases h : i < n
  · rw [if_pos (by omega), if_pos h, Int.toNat_natCast]
  · rw [if_neg (by omega), if_neg h]
@[simp] theorem rsOf_ok (e : En) (d : D) (m : Mu) (k : D → Mu → RS) : rsOf e (.ok d m) k = k d m := rfl
@[simp] theorem rsOf_exc (e : En) (C : Addr) (fs : List (Str × D)) (m : Mu) (k : D → Mu → RS) : rsOf e (.exc C fs m) k = .exc C fs e m := rfl
@[simp] theorem rsOfB_ok (e : En) (d : Bool) (m : Mu) (k : Bool → Mu → RS) : rsOfB e (.ok d m) k = k d m := rfl
@[simp] theorem rsOfB_exc (e : En) (C : Addr) (fs : List (Str × D)) (m : Mu) (k : Bool → Mu → RS) : rsOfB e (.exc C fs m) k = .exc C fs e m := rfl
@[simp] theorem seqL_lst (m : Mu) (ds : List D) : seqL m (.lst ds) = some ds := rfl
@[simp] theorem seqA_lst (m : Mu) (ds : List D) : seqA m (.lst ds) = some ds := rfl
@[simp] theorem seqA_tup (m : Mu) (ds : List D) : seqA m (.tup ds) = some ds := rfl
@[simp] theorem seqA_loc (m : Mu) (n : Nat) : seqA m (.loc n) = match m[n]? with
  | some (.lst ds) => some ds
  | _ => none := by
  simp only [seqA, seqL]
  cases m[n]? with
  | none => rfl
  | some o => cases o <;> rfl
@[simp] theorem gIx_loc (m : Mu) (n : Nat) (i : Int) : gIx (.loc n) (.int i) m = match m[n]? with
  | some (.lst ds) => (match atI ds i with
    | some d => .ok d m
    | none => .stuck)
  | _ => .stuck := by
  have h : gIx (.loc n) (.int i) m = match seqA m (.loc n) with
    | some ds => (match atI ds i with
      | some d => .ok d m
      | none => .stuck)
    | none => .stuck := rfl
  rw [h, seqA_loc]
  cases m[n]? with
  | none => rfl
  | some o => cases o <;> rfl
@[simp] theorem insOf_obj (m : Mu) (c : Kl) (ds : List D) : insOf m (.obj c ds) = some (c.a, c.ns, ds) := rfl
@[simp] theorem insOf_loc (m : Mu) (n : Nat) : insOf m (.loc n) = match m[n]? with
  | some (.ins C fs) => some (C, fs.map (·.1), fs.map (·.2))
  | _ => none := rfl
@[simp] theorem fldAt_nil (C : Addr) (ns : List Str) (ds : List D) : fldAt [] C ns ds = none := rfl
@[simp] theorem fldAt_cons (c : Kl) (i : Nat) (rest : List (Kl × Nat)) (C : Addr) (ns : List Str) (ds : List D) : fldAt ((c, i) :: rest) C ns ds = if C = c.a ∧ ns = c.ns then ds[i]? else fldAt rest C ns ds := rfl
@[simp] theorem methAt_nil (C : Addr) (ns : List Str) : methAt [] C ns = none := rfl
@[simp] theorem methAt_cons (c : Kl) (G : DFn) (rest : List (Kl × DFn)) (C : Addr) (ns : List Str) : methAt ((c, G) :: rest) C ns = if C = c.a ∧ ns = c.ns then some G else methAt rest C ns := rfl
@[simp] theorem noExc_ok (d : D) (m : Mu) : noExc (.ok d m) = .ok d m := rfl
@[simp] theorem dLoop_nil (g : DG) (b : DS) (e : En) (m : Mu) : dLoop g b [] e m = .nx e m := rfl
@[simp] theorem dCompL_nil (g : DG) (c : DT) (b : DE) (e : En) (m : Mu) (acc : List D) : dCompL g c b e [] m acc = .ok acc m := rfl
@[simp] theorem wipeE_nil (e : En) : wipeE e [] = e := rfl
@[simp] theorem wipeE_cons (e : En) (v : Nat) (vs : List Nat) : wipeE e (v :: vs) = (wipeE e vs).set v none := rfl
@[simp] theorem atI_nat {α : Type} (xs : List α) (i : Nat) : atI xs (i : Int) = xs[i]? := by
  unfold atI ixN
  rw [if_pos (by omega)]
  by_cases h : i < xs.length
  · rw [if_pos (by omega)]; simp
  · rw [if_neg (by omega)]; simp; omega
@[simp] theorem atI_lit {α : Type} (xs : List α) (i : Nat) : atI xs (no_index (@OfNat.ofNat Int i _)) = xs[i]? := atI_nat xs i
end
end DL

namespace DL
open PySem PySem.Spec PyProof.Rows L2
variable [LamTab]
theorem dCompL_map {g : DG} {c : DT} {b : DE} {e : En} {m : Mu} (f : D → D) : ∀ (ds acc : List D), (∀ d ∈ ds, ∃ e1, g d e = some e1 ∧ c e1 m = .ok true m ∧ b e1 m = .ok (f d) m) → acc.length + ds.length ≤ sizeLine → dCompL g c b e ds m acc = .ok (acc ++ ds.map f) m
  | [], acc, _, _ => by simp
  | d :: ds, acc, h, hl => by
    obtain ⟨e1, h1, h2, h3⟩ := h d (by simp)
    have ih := dCompL_map f ds (acc ++ [f d]) (fun x hx => h x (by simp [hx])) (by simp at hl ⊢; omega)
    unfold dCompL
    rw [h1]
    simp only [h2, h3]
    rw [if_pos (by simp at hl; omega), ih]
    simp
def plainD : Nat → D → Prop
  | 0, _ => False
  | _ + 1, .non => True
  | _ + 1, .bl _ => True
  | _ + 1, .int _ => True
  | _ + 1, .str _ => True
  | n + 1, .tup ds => ds.length ≤ sizeLine ∧ ∀ d ∈ ds, plainD n d
  | n + 1, .lst ds => ds.length ≤ sizeLine ∧ ∀ d ∈ ds, plainD n d
  | _ + 1, _ => False
theorem toBs_trues : ∀ n : Nat, toBs (List.replicate n (.bl true)) = some (List.replicate n true)
  | 0 => rfl
  | n + 1 => by simp [List.replicate_succ, toBs, toBs_trues n]
end DL

namespace DL
open PySem PySem.Spec PyProof.Rows L2
variable [LamTab]
section
variable {X : Cx} {a b c e o : Expr} {es : List Expr} {ta tb tc : DE} {t : DA} {pos : Pos} {k : Nat}
theorem op_catS : OpR X (binaryOp .Add) (fun x y H Q => ∃ l b xs zs, x = .ref l ∧ y = .ref b ∧ SqL X.K H l xs ∧ SqL X.K H b zs ∧ xs.length + zs.length ≤ sizeLine ∧ ∀ p, H p = none → Q (.ref p) (upd H p (.lst (xs ++ zs)))) := by
  intro pins s σ H x y v u Q I rx ry h
  obtain ⟨l, b, xs, zs, rfl, rfl, hH, hB, hz, q⟩ := h
  cases rx
  cases ry
  obtain ⟨its, r1, ⟨⟨cls, dd, data, sl⟩, n, e1, hc1, hd1, hs1⟩, _⟩ := I.list hH
  obtain ⟨its2, r2, ⟨⟨cls2, dd2, data2, sl2⟩, n2, e2, hc2, hd2, hs2⟩, _⟩ := I.list hB
  simp only at hc1 hs1 hc2 hs2
  subst hc1 hs1 hc2 hs2
  have l1 := r1.length
  have l2 := r2.length
  have ea : its.toArray ++ its2.toArray = (its ++ its2).toArray := by simp
  refine concat_meets ⟨_, e1, rfl⟩ ⟨_, e2, rfl⟩ noFill_list_add seq_list_add PySem.F.slot_list_add PySem.F.entry_list_add (PySem.F.args_list_add_2 _ _) (list_addW l b its.toArray its2.toArray n n2 dd dd2 sl sl2 (by simp; omega)) ⟨e1, e2, ?_⟩
  rw [ea]
  exact ⟨.ref _, _, I.lnew (t' := s.toks) (r1.append r2) (by rw [List.length_append]; omega), rfl, q _ I.fresh⟩
def gCat : D2 := fun x y m => match seqL m x, seqL m y with
  | some xs, some ys => if xs.length + ys.length ≤ sizeLine then .ok (.lst (xs ++ ys)) m else .stuck
  | _, _ => .stuck
theorem od_cat : OD X (binaryOp .Add) gCat := by
  refine od_of op_catS fun S m x y vx vy Q W sa rx ry p => ?_
  unfold gCat at p
  split at p
  · rename_i xs ys e1 e2
    split at p
    · rename_i hl
      obtain ⟨l, us, rfl, h1, r1⟩ := seqL_ok sa rx e1
      obtain ⟨l2, ws, rfl, h2, r2⟩ := seqL_ok sa ry e2
      refine ⟨l, l2, us, ws, rfl, rfl, h1, h2, by rw [← r1.len, ← r2.len]; exact hl, fun p' hp => ?_⟩
      have st1 := Stp.new sa (o := .lst (us ++ ws)) hp
      exact p (.ref p') (S.new p' (.lst (us ++ ws))) st1 (sa.new hp) (.lst (.inl (.inl upd_same)) ((r1.append r2).stp st1))
    · exact p.elim
  · exact p.elim
def gCatM : D2 := fun x y m => match seqL m x, seqL m y with
  | some xs, some ys => if xs.length + ys.length ≤ sizeLine then .ok (.loc m.length) (m ++ [.lst (xs ++ ys)]) else .stuck
  | _, _ => .stuck
abbrev MRow (P : Program) (w : World) (K : PySem.W.Frag) (mg : Str → Option Value) (base : Heap) (k : Nat) (mn : Str) : Kl → DFn → Prop := fun c G => MT P w K mg base k mn c.a G
def dTrO (rows : List (Kl × DFn)) (t : DE) : DT := fun e m => (t e m).bind fun d m => match dTru m d with
  | some b => .ok b m
  | none => match insOf m d with
    | some (C, ns, _) => match methAt rows C ns with
      | some G => (G [d] m).bind fun r m => match r with
        | .bl b => .ok b m
        | _ => .stuck
      | none => .stuck
    | none => .stuck
end
end DL

namespace DL
open PySem PySem.Spec PySem.Calls PyProof.Rows L2
variable [LamTab]
open PySem.W (InstAt findIn isFn mroIn)
section
variable {prog : Program} {w : World} {A : Around} {E : Value → Shared → Prop} {s : Shared} {K : PySem.W.Frag} {x C L f : Addr} {h₀ : Heap} {m : Str → Option Value} {ox : Obj} {od : Option Obj} {b tb : Value}
end
section
variable {X : Cx} {a b c e o : Expr} {es : List Expr} {ta tb tc : DE} {t : DA} {pos : Pos} {k : Nat}
theorem tag_looks {pins : List (Addr × Obj)} {σ : L2.St} {s : Shared} {S : Wd} {m : Mu} {d : D} {v : V} {u : Value} {t : Tg} (I : Inv X pins σ S.H s) (sa : Sta X.K S m) (r : Rep X.K S.i S.F d v) (rv : RelV v u) (ht : tagOf m d = some t) :
    PySem.W.Looks (model X.prog X.w) s.heap (typeOf u) t.val := by
  have pr : ∀ {ty : Value}, TyX X.K S.H v ty → PySem.W.Looks (model X.prog X.w) s.heap (typeOf u) ty := fun ty => by
    obtain ⟨P, Z, p, _⟩ := kit_of I rv ty
    exact Z.ty _ _ I.kIn p
  have ow : ∀ {a C dx : Addr} {fs : List (Str × V)}, v = .ref a → S.H a = some (.ins C dx fs) → PySem.W.Looks (model X.prog X.w) s.heap (typeOf u) (.ref C) := fun {a C dx fs} e h => by
    subst e
    obtain rfl : u = Value.ref a := rv
    obtain ⟨od, J⟩ := Inv.inst I h
    exact J.type
  cases r with
  | non => cases ht; exact pr (.base .non)
  | bl x => cases ht; exact pr (.base (.bl x))
  | int x => cases ht; exact pr (.base (.int x))
  | str x => cases ht; exact pr (.base (.str x))
  | tup h1 h2 => cases ht; exact pr (SqT.tyx (SqT.ext' h1 sa.sub))
  | lst h1 h2 => cases ht; exact pr (SqL.tyx (SqL.ext' h1 sa.sub))
  | obj h1 h2 h3 => cases ht; exact ow rfl (sa.sub _ _ h1)
  | @loc n a h =>
    unfold tagOf at ht
    dsimp only at ht
    split at ht
    · rename_i ds e
      cases ht
      obtain ⟨xs, q1, q2⟩ := sa.ok n a _ h e
      exact pr (.base (.lst q1))
    · rename_i C fs e
      cases ht
      obtain ⟨dx, vs, q1, q2⟩ := sa.ok n a _ h e
      exact ow rfl q1
    · cases ht
  | val v => cases ht
  | xob h1 h2 h3 => cases ht
  | lam h => cases ht
  | clo h h2 h3 => cases ht
def eqRow (rows : List (Kl × DFn × List Tg)) (C : Addr) (ns : List Str) : Option (DFn × List Tg) := match rows with
  | [] => none
  | (c, G) :: rest => if C = c.a ∧ ns = c.ns then some G else eqRow rest C ns
theorem eqRow_ok {P : Kl × DFn × List Tg → Prop} : ∀ {rows : List (Kl × DFn × List Tg)} {C : Addr} {ns : List Str} {G : DFn × List Tg}, (∀ r ∈ rows, P r) → eqRow rows C ns = some G → ∃ c, P (c, G) ∧ C = c.a ∧ ns = c.ns
  | [], _, _, _, _, h => by cases h
  | (c, i) :: rest, C, ns, d, hr, h => by
    unfold eqRow at h
    split at h
    · rename_i e
      cases h
      exact ⟨c, hr _ List.mem_cons_self, e.1, e.2⟩
    · exact eqRow_ok (fun r hm => hr r (List.mem_cons_of_mem _ hm)) h
structure EqOk (P : Program) (w : World) (K : PySem.W.Frag) (mg : Str → Option Value) (base : Heap) (k : Nat) (r : Kl × DFn × List Tg) : Prop where
  mt : MT P w K mg base k "__eq__" r.1.a r.2.1
  nf : ∀ t ∈ r.2.2, PySem.W.notFirst K r.1.a t.val = true
def dOwnEq (neg : Bool) (rows : List (Kl × DFn × List Tg)) : D2 := fun x y m => match insOf m x with
  | some (C, ns, _) => match eqRow rows C ns, tagOf m y with
    | some (G, ts), some t => if t ∈ ts then ((G [x, y] m).bind fun r m1 => match r with
        | .bl b => .ok (.bl (neg ^^ b)) m1
        | _ => .stuck) else .stuck
    | _, _ => .stuck
  | none => .stuck
theorem od_ownEq {rows : List (Kl × DFn × List Tg)} (hrows : ∀ r ∈ rows, EqOk X.prog X.w X.K X.mg X.base k r) (hr : Room k X.A) : OD X (compareOp .Eq) (dOwnEq false rows) := by
  intro pins s σ S m x y vx vy u w Q sa rx ry I hu hw p
  unfold dOwnEq at p
  split at p
  · rename_i C ns ds ei
    split at p
    · rename_i G ts t eG eT
      split at p
      · rename_i ht
        obtain ⟨c, ok, rfl, rfl⟩ := eqRow_ok (P := EqOk X.prog X.w X.K X.mg X.base k) hrows eG
        obtain ⟨a, dx, vs, rfl, h1, h2, h3⟩ := insOf_ok sa rx ei
        obtain ⟨f, fd, ps, dds, G0, hf1, hf2, hk, hf, hb, rfl⟩ := ok.mt.ex
        obtain rfl : u = Value.ref a := hu
        obtain ⟨od1, J1⟩ := Inv.inst I h1
        obtain ⟨mm, F⟩ := I.fr
        refine PySem.W.cmp_K (op := .Eq) hr.units0 F I.ok.mod.kin J1 (tag_looks I sa ry hw eT) (ok.nf t ht) hf1 hf2 (thn (run_fnA (us := [.ref a, w]) hf hr hb rfl I sa (.cons rx (.cons ry .nil)) (.cons rfl (.cons hw .nil)) (Post.bindI p fun r m2 v U st2 sa2 rv q2 => ?_)) fun v s1 h => cmpBack_of h fun h => h)
        cases rv with
        | bl b => (dsimp only at q2; rw [Bool.false_xor] at q2); exact Post.ok q2 (Stp.refl U) sa2 (.bl b)
        | _ => exact (show False from q2).elim
      · exact p.elim
    · exact p.elim
  · exact p.elim
def dOwnIn (neg : Bool) (rows : List (Kl × DFn)) : D2 := fun x y m => match insOf m y with
  | some (C, ns, _) => match methAt rows C ns with
    | some G => (G [y, x] m).bind fun r m1 => match r with
      | .bl b => .ok (.bl (neg ^^ b)) m1
      | _ => .stuck
    | _ => .stuck
  | none => .stuck
theorem strBack {pins : List (Addr × Obj)} {σ : L2.St} {Q : Value → Shared → Prop} {v : Value} {s : Shared} (h : EP X pins σ (fun v H => ∃ x, v = .str x ∧ ∀ t s, Inv X pins σ H s → Q (.str x t) s) v s) : PySem.W.StrBack Q v s := by
  obtain ⟨y, H, I, r, x, rfl, q⟩ := h
  obtain ⟨t, rfl⟩ := r
  exact q t s I
def dOwnStr (rows : List (Kl × DFn)) : DFn := fun ds m => match ds with
  | [x] => match insOf m x with
    | some (C, ns, _) => match methAt rows C ns with
      | some G => (G [x] m).bind fun r m1 => match r with
        | .str z => .ok (.str z) m1
        | _ => .stuck
      | none => .stuck
    | none => .stuck
  | _ => .stuck
theorem ownStr_run {mn : Str} {rows : List (Kl × DFn)} (hrows : ∀ r ∈ rows, MRow X.prog X.w X.K X.mg X.base k mn r.1 r.2) {pins : List (Addr × Obj)} {s : Shared} {σ : L2.St} {S : Wd} {m : Mu} {x : D} {vx : V} {u : Value} {Q : VK} (sa : Sta X.K S m) (rx : Rep X.K S.i S.F x vx) (I : Inv X pins σ S.H s) (hu : RelV vx u)
    (p : PostD X.K S (dOwnStr rows [x] m) Q (fun c d H => Fly X c d σ H)) :
    ∃ (a f C : Addr) (od : Obj) (dx : Addr), u = .ref a ∧ InstAt s.heap a (PySem.W.instObj C dx) C (some od) ∧ findIn X.K (.ref C) mn = some (some (.ref f)) ∧ isFn X.K (.ref f) = true ∧
      ∀ A s', A.frames = X.A.frames → Room k A → Inv X pins σ S.H s' → wpAny (model X.prog X.w) A (call (.ref f) [.ref a]) (PySem.W.StrBack fun v s => EP X pins σ Q v s) X.xe s' := by
  unfold dOwnStr at p
  dsimp only at p
  split at p
  · rename_i C ns ds ei
    split at p
    · rename_i G eG
      obtain ⟨c, ok, rfl, rfl⟩ := methAt_ok (P := MRow X.prog X.w X.K X.mg X.base k mn) hrows eG
      obtain ⟨a, dx, vs, rfl, h1, h2, h3⟩ := insOf_ok sa rx ei
      obtain ⟨f, fd, ps, dds, G0, hf1, hf2, hk, hf, hb, rfl⟩ := ok.ex
      obtain rfl : u = Value.ref a := hu
      obtain ⟨od1, J1⟩ := Inv.inst I h1
      refine ⟨a, f, _, od1, dx, rfl, J1, hf1, hf2, fun A s' hA hr I' => thn (run_fnA (us := [.ref a]) hf hr hb hA I' sa (.cons rx .nil) (.cons rfl .nil) (Post.bindI p fun r m2 v U st2 sa2 rv q2 => ?_)) fun v s1 h => strBack (pins := pins) (σ := σ) h⟩
      cases rv with
      | str z => exact ⟨z, rfl, fun t s I => ⟨.str z, U.H, I, ⟨t, rfl⟩, Post.ok q2 (Stp.refl U) sa2 (.str z)⟩⟩
      | _ => exact (show False from q2).elim
    · exact (show False from p).elim
  · exact (show False from p).elim
theorem oc_strO {rows : List (Kl × DFn)} (hrows : ∀ r ∈ rows, MRow X.prog X.w X.K X.mg X.base k "__str__" r.1 r.2) (hr : Room (k + 2) X.A) : OC X (.type "str") (dOwnStr rows) := by
  intro pins s σ S m ds xs us Q sa r rv I p
  match ds, xs, us, r, rv with
  | [x], [vx], [u], .cons rx .nil, .cons hu .nil =>
    obtain ⟨a, f, C, od, dx, rfl, J, h1, h2, run⟩ := ownStr_run hrows sa rx I hu p
    exact PySem.W.kso_call (by have := hr.un; show X.A.units + 1 + 1 < _; omega) I.kIn J h1 h2 (run _ s rfl hr.in1.in1 I)
  | [], _, _, _, _ => exact p.elim
  | _ :: _ :: _, _, _, _, _ => exact p.elim
end
end DL

namespace DL
open PySem PySem.Spec PySem.Calls PyProof.Rows L2
variable [LamTab]
section
variable {X : Cx} {a b c e o : Expr} {es : List Expr} {ta tb tc : DE} {t : DA} {pos p apos : Pos} {k : Nat} {x mn : Str}
def dFmt (rows : List (Kl × DFn)) (t : DE) : DE := fun e m => (t e m).bind fun d m1 => match d with
  | .str y => if y.length ≤ sizeLine then .ok (.str y) m1 else .stuck
  | .int i => if i.natAbs.log2 < 1920 then .ok (.str (toString i)) m1 else .stuck
  | d => dOwnStr rows [d] m1
structure FmtOk (P : Program) (w : World) (K : PySem.W.Frag) (mg : Str → Option Value) (base : Heap) (k : Nat) (c : Kl) (G : DFn) : Prop where
  mt : MT P w K mg base k "__str__" c.a G
  fm : PySem.W.findIn K (.ref c.a) "__format__" = some (some (.builtin "object.__format__"))
  ob : PySem.W.mroIn K c.a (.type "object") = some true
theorem pd_fmt {rows : List (Kl × DFn)} (he : PDE X e ta) (hrows : ∀ r ∈ rows, FmtOk X.prog X.w X.K X.mg X.base k r.1 r.2) (hr : Room (k + 1) X.A) : PDE X (.FormattedValue e (-1) none pos) (dFmt rows ta) := by
  intro S r m σ Q sa re q pins s I
  refine wpAny_FormattedValue_plain (thn (he.run sa re q I) ?_)
  rintro u s1 ⟨x, d, m1, T, st, sa1, rd, rx, I1, q1⟩
  split at q1
  · rename_i y
    cases rd
    split at q1
    · rename_i hz
      obtain ⟨t, rfl⟩ := rx
      have q2 := Post.ok q1 (Stp.refl T) sa1 (.str y)
      exact wpAny_formatField_str ⟨.str y, _, I1, ⟨t, rfl⟩, q2⟩ ⟨.str y, _, I1.tok _, ⟨_, rfl⟩, q2⟩ hz
    · exact (show False from q1).elim
  · rename_i i
    cases rd
    split at q1
    · rename_i hz
      obtain ⟨t, rfl⟩ := rx
      have q2 := Post.ok q1 (Stp.refl T) sa1 (.str _)
      exact wpAny_formatField_int hz ⟨.str (toString i), _, I1.tok _, ⟨_, rfl⟩, q2⟩
    · exact (show False from q1).elim
  · unfold dOwnStr at q1
    dsimp only at q1
    split at q1
    · rename_i C ns ds ei
      split at q1
      · rename_i G eG
        obtain ⟨c, ok, rfl, rfl⟩ := methAt_ok (P := FmtOk X.prog X.w X.K X.mg X.base k) hrows eG
        obtain ⟨a, dx, vs, rfl, h1, h2, h3⟩ := insOf_ok sa1 rd ei
        obtain ⟨f, fd, ps, dds, G0, hf1, hf2, hk, hf, hb, rfl⟩ := ok.mt.ex
        obtain rfl : u = Value.ref a := rx
        obtain ⟨od1, J1⟩ := Inv.inst I1 h1
        refine PySem.W.kfo_fieldS (by have := hr.un; show X.A.units + 1 < _; omega) I1.kIn J1 ok.fm ok.ob hf1 hf2 (thn (run_fnA (us := [.ref a]) hf hr.in1 hb rfl (I1.tok _) sa1 (.cons rd .nil) (.cons rfl .nil) (Post.bindI q1 fun r m2 v U st2 sa2 rv q2 => ?_)) fun v s2 h => strBack (pins := pins) (σ := σ) h)
        cases rv with
        | str z => exact ⟨z, rfl, fun t s I => ⟨.str z, U.H, I, ⟨t, rfl⟩, Post.ok q2 (Stp.refl U) sa2 (.str z)⟩⟩
        | _ => exact (show False from q2).elim
      · exact (show False from q1).elim
    · exact (show False from q1).elim
def dJs : List DE → Str → DE
  | [], acc, _, m => .ok (.str acc) m
  | t :: ts, acc, e, m => (t e m).bind fun d m1 => match d with
    | .str y => if (acc ++ y).length ≤ sizeLine then dJs ts (acc ++ y) e m1 else .stuck
    | _ => .stuck
inductive PDJ (X : Cx) : List Expr → List DE → Prop where
  | nil : PDJ X [] []
  | cons {e : Expr} {t : DE} {es : List Expr} {ts : List DE} (h : PDE X e t) (r : PDJ X es ts) : PDJ X (e :: es) (t :: ts)
theorem pj_mx : ∀ {es : List Expr} {ts : List DE}, PDJ X es ts → PJ X es (es.map (WE X))
  | _, _, .nil => .nil
  | _, _, .cons h r => .cons (mxE X _) (pj_mx r)
theorem tjs_of : ∀ {es : List Expr} {ts : List DE}, PDJ X es ts → ∀ (acc : Str) {S : Wd} {r : En} {m : Mu} {σ : L2.St} {Q : Str → Hp → Prop}, Sta X.K S m → RelE X.K S r σ →
    PostD X.K S (dJs ts acc r m) (fun v H => ∃ y, v = .str y ∧ Q y H) (fun c d H => Fly X c d σ H) → tJs (es.map (WE X)) acc σ S.H Q
  | _, _, .nil, acc, S, r, m, σ, Q, sa, re, q => by
    obtain ⟨y, e, q⟩ := Post.ok q (Stp.refl S) sa (.str acc)
    cases e
    exact q
  | _, _, .cons h rr, acc, S, r, m, σ, Q, sa, re, q => by
    refine h S r m σ _ sa re (Post.bindI q fun d m1 v T st sa1 rd q1 => ?_)
    split at q1
    · rename_i y
      cases rd
      split at q1
      · rename_i hz
        exact ⟨y, rfl, hz, tjs_of rr (acc ++ y) sa1 (re.stp st) q1⟩
      · exact (show False from q1).elim
    · exact (show False from q1).elim
theorem dJs_str {ts : List DE} : ∀ {acc : Str} {e : En} {m : Mu} {K : PySem.W.Frag} {S : Wd} {Q : VK} {W : XK}, PostD K S (dJs ts acc e m) Q W → PostD K S (dJs ts acc e m) (fun v H => ∃ y, v = .str y ∧ Q (.str y) H) W := by
  induction ts with
  | nil => exact fun q v T st sa rd => by cases rd; exact ⟨_, rfl, q _ T st sa (.str _)⟩
  | cons t ts ih =>
    intro acc e m K S Q W q
    unfold dJs at q ⊢
    cases h : t e m with
    | stuck => rw [h] at q; exact q
    | exc C fs m1 => rw [h] at q; exact q
    | ok d m1 =>
      rw [h] at q
      rw [Res.bind_ok] at q ⊢
      cases d with
      | str y =>
        dsimp only at q ⊢
        by_cases hz : (acc ++ y).length ≤ sizeLine
        · rw [if_pos hz] at q ⊢
          exact ih q
        · rw [if_neg hz] at q ⊢
          exact q
      | _ => exact q
theorem pd_joined {v1 v2 : Expr} {rest : List Expr} {ts : List DE} (h : PDJ X (v1 :: v2 :: rest) ts) : PDE X (.JoinedStr (v1 :: v2 :: rest) pos) (dJs ts Str.empty) := by
  refine pd_of (pe_joined (pj_mx h)) fun S r m σ Q sa re q => ?_
  exact tjs_of h Str.empty sa re (dJs_str q)
theorem pd_joined1 (h : PDE X e ta) : PDE X (.JoinedStr [e] pos) ta := pd_of (pe_joined1 (mxE X e)) h
def dMethK (rows : List (Kl × DFn)) (n nk : Nat) (to : DE) (t u : DA) : DE := fun e m => (to e m).bind fun o m1 => match insOf m1 o with
  | some (C, ns, _) => match methAt rows C ns with
    | some G => (t e m1).bind fun ds m2 => (u e m2).bind fun zs m3 => if ds.length = n ∧ zs.length = nk then G (o :: (ds ++ zs)) m3 else .stuck
    | none => .stuck
  | none => .stuck
end
end DL

namespace DL
open PySem PySem.Spec PyProof.Rows L2
variable [LamTab]
open Classical in
section
variable {K : PySem.W.Frag}
end
section
variable {P : Program} {w : World} {K : PySem.W.Frag} {mg : Str → Option Value} {base : Heap}
end
open Classical in
noncomputable def dLoopS (g : DG) (b : DS) (n : Nat) (ds0 : List D) : List D → En → Mu → RS
  | [], e, m => if m[n]? = some (.lst ds0) then .nx e m else .stuck
  | d :: ds, e, m => if m[n]? = some (.lst ds0) then (match g d e with
    | none => .stuck
    | some e1 => match b e1 m with
      | .nx e2 m2 => dLoopS g b n ds0 ds e2 m2
      | .ct e2 m2 => dLoopS g b n ds0 ds e2 m2
      | .bk e2 m2 => .nx e2 m2
      | .rt d m2 => .rt d m2
      | .exc C fs e2 m2 => .exc C fs e2 m2
      | .stuck => .stuck) else .stuck
noncomputable def forS1 (g : DG) (b : DS) (d : D) (e : En) (m1 : Mu) : RS := match d with
  | .lst ds => dLoop g b ds e m1
  | .loc n => match m1[n]? with
    | some (.lst ds) => dLoopS g b n ds ds e m1
    | _ => .stuck
  | _ => .stuck
noncomputable def dForS (t : DE) (g : DG) (b : DS) : DS := fun e m => rsOf e (t e m) fun d m1 => forS1 g b d e m1
section
variable {X : Cx} {tg a b : Expr} {es : List Expr} {ta tb : DE} {t : DA} {pos p tpos : Pos}
def dLm (f : List D → List D → Option (List D × D)) (to : DE) (t : DA) : DE := fun e m => (to e m).bind fun o m1 => match o with
  | .loc n => match m1[n]? with
    | some (.lst _) => (t e m1).bind fun ds m2 => match m2[n]? with
      | some (.lst xs) => match f xs ds with
        | some (ys, d) => .ok d (m2.set n (.lst ys))
        | none => .stuck
      | _ => .stuck
    | _ => .stuck
  | _ => .stuck
def fAppend : List D → List D → Option (List D × D) := fun xs ds => match ds with
  | [d] => if xs.length < sizeLine then some (xs ++ [d], .non) else none
  | _ => none
def fClear : List D → List D → Option (List D × D) := fun _ ds => match ds with
  | [] => some ([], .non)
  | _ => none
section
variable {f : List D → List D → Option (List D × D)} {rr : V → List V → Hp → VK → Prop}
variable {o e : Expr} {to : DE} {name : Str} {apos cpos : Pos} {id : String}
end
end
end DL

namespace DL
open PySem PySem.Spec PyProof.Rows L2
variable [LamTab]
section
variable {K : PySem.W.Frag} {S T : Wd} {m : Mu}
end
open Classical in
noncomputable def dCompG (gd : Mu → Prop) (g : DG) (c : DT) (b : DE) (e : En) : List D → Mu → List D → Res (List D)
  | [], m, acc => if gd m then .ok acc m else .stuck
  | d :: ds, m, acc => if gd m then (match g d e with
    | none => .stuck
    | some e1 => match c e1 m with
      | .ok true m1 => match b e1 m1 with
        | .ok x m2 => if acc.length < sizeLine then dCompG gd g c b e ds m2 (acc ++ [x]) else .stuck
        | _ => .stuck
      | .ok false m1 => dCompG gd g c b e ds m1 acc
      | _ => .stuck) else .stuck
def fF : List D → Mu → Res D := fun xs m => .ok (.lst xs) m
def fM : List D → Mu → Res D := fun xs m => .ok (.loc m.length) (m ++ [.lst xs])
noncomputable def comp1 (fin : List D → Mu → Res D) (g : DG) (c : DT) (b : DE) (e : En) (d : D) (m : Mu) : Res D := match d with
  | .lst ds => (dCompL g c b e ds m []).bind fin
  | .loc n => match m[n]? with
    | some (.lst ds) => (dCompG (fun m => m[n]? = some (.lst ds)) g c b e ds m []).bind fin
    | _ => .stuck
  | _ => .stuck
noncomputable def dCompS (fin : List D → Mu → Res D) (t : DE) (g : DG) (c : DT) (b : DE) (own : List Nat) : DE := fun e m => (t e m).bind fun d m1 => comp1 fin g c b (wipeE e own) d m1
noncomputable def dCompM (t : DA) (g : DG) (c : DT) (b : DE) (own : List Nat) : DE := fun e m => (t e m).bind fun ds m1 => (dCompL g c b (wipeE e own) ds m1 []).bind fM
def ItOkG (K : PySem.W.Frag) (gd : Mu → Prop) (T : Wd) (J : It) (ds : List D) : Prop := ∀ (U : Wd) (m : Mu) (i : Nat), Stp T U → Sta K U m → gd m →
  (∀ d, ds[i]? = some d → J.go i U.H ∧ ∀ x H', J.yld i U.H x H' → ∃ Y : Wd, Y.H = H' ∧ Stp U Y ∧ Sta K Y m ∧ Rep K Y.i Y.F d x) ∧ (ds.length ≤ i → J.stop i U.H)
section
variable {X : Cx} {elt tg iter : Expr} {ifs : List Expr} {scope : Scope} {own : List (Str × Nat)} {pos spos : Pos} {t : DA} {ta : DE} {g : DG} {c : DT} {b : DE} {sl : List Nat} {fin : List D → Mu → Res D} {gd : Mu → Prop}
end
end DL
namespace DL
open PySem PySem.Spec PyProof.Rows L2
variable [LamTab]
section
variable {X : Cx} {a : Expr} {ta : DE} {pos : Pos} {k : Nat}
def dNotO (rows : List (Kl × DFn)) (t : DE) : DE := fun e m => (dTrO rows t e m).bind fun b m => .ok (.bl !b) m
end
end DL
namespace DL
open PySem PySem.Spec PyProof.Rows L2
variable [LamTab]
section
variable {X : Cx} {es : List Expr} {pos : Pos}
def dLstG (n : Nat) (g : List D → En → Option En) : DG := fun d e => match d with
  | .lst ds => if ds.length = n then g ds e else none
  | _ => none
@[simp ↓] theorem dLstG_ap (n : Nat) (g : List D → En → Option En) (d : D) (e : En) : dLstG n g d e = match d with
  | .lst ds => if ds.length = n then g ds e else none
  | _ => none := rfl
end
end DL
namespace DL
open PySem PySem.Spec PyProof.Rows L2
variable [LamTab]
@[simp ↓] theorem dTrO_ap (rows : List (Kl × DFn)) (t : DE) (e : En) (m : Mu) : dTrO rows t e m = (t e m).bind fun d m => match dTru m d with
  | some b => .ok b m
  | none => match insOf m d with
    | some (C, ns, _) => match methAt rows C ns with
      | some G => (G [d] m).bind fun r m => match r with
        | .bl b => .ok b m
        | _ => .stuck
      | none => .stuck
    | none => .stuck := rfl
@[simp ↓] theorem dNotO_ap (rows : List (Kl × DFn)) (t : DE) (e : En) (m : Mu) : dNotO rows t e m = (dTrO rows t e m).bind fun b m => .ok (.bl !b) m := rfl
@[simp] theorem gCat_ap (x y : D) (m : Mu) : gCat x y m = match seqL m x, seqL m y with
  | some xs, some ys => if xs.length + ys.length ≤ sizeLine then .ok (.lst (xs ++ ys)) m else .stuck
  | _, _ => .stuck := rfl
@[simp] theorem gCatM_ap (x y : D) (m : Mu) : gCatM x y m = match seqL m x, seqL m y with
  | some xs, some ys => if xs.length + ys.length ≤ sizeLine then .ok (.loc m.length) (m ++ [.lst (xs ++ ys)]) else .stuck
  | _, _ => .stuck := rfl
@[simp] theorem seqL_loc (m : Mu) (n : Nat) : seqL m (.loc n) = match m[n]? with
  | some (.lst ds) => some ds
  | _ => none := rfl
@[simp] theorem eqRow_nil (C : Addr) (ns : List Str) : eqRow [] C ns = none := rfl
@[simp] theorem eqRow_cons (c : Kl) (G : DFn × List Tg) (rest : List (Kl × DFn × List Tg)) (C : Addr) (ns : List Str) : eqRow ((c, G) :: rest) C ns = if C = c.a ∧ ns = c.ns then some G else eqRow rest C ns := rfl
@[simp ↓] theorem dMethK_ap (rows : List (Kl × DFn)) (n nk : Nat) (to : DE) (t u : DA) (e : En) (m : Mu) : dMethK rows n nk to t u e m = (to e m).bind fun o m1 => match insOf m1 o with
  | some (C, ns, _) => match methAt rows C ns with
    | some G => (t e m1).bind fun ds m2 => (u e m2).bind fun zs m3 => if ds.length = n ∧ zs.length = nk then G (o :: (ds ++ zs)) m3 else .stuck
    | none => .stuck
  | none => .stuck := rfl
@[simp] theorem dOwnEq_ap (neg : Bool) (rows : List (Kl × DFn × List Tg)) (x y : D) (m : Mu) : dOwnEq neg rows x y m = match insOf m x with
  | some (C, ns, _) => match eqRow rows C ns, tagOf m y with
    | some (G, ts), some t => if t ∈ ts then ((G [x, y] m).bind fun r m1 => match r with
        | .bl b => .ok (.bl (neg ^^ b)) m1
        | _ => .stuck) else .stuck
    | _, _ => .stuck
  | none => .stuck := rfl
@[simp] theorem dOwnIn_ap (neg : Bool) (rows : List (Kl × DFn)) (x y : D) (m : Mu) : dOwnIn neg rows x y m = match insOf m y with
  | some (C, ns, _) => match methAt rows C ns with
    | some G => (G [y, x] m).bind fun r m1 => match r with
      | .bl b => .ok (.bl (neg ^^ b)) m1
      | _ => .stuck
    | _ => .stuck
  | none => .stuck := rfl
@[simp] theorem dOwnStr_ap (rows : List (Kl × DFn)) (x : D) (m : Mu) : dOwnStr rows [x] m = match insOf m x with
  | some (C, ns, _) => match methAt rows C ns with
    | some G => (G [x] m).bind fun r m1 => match r with
      | .str z => .ok (.str z) m1
      | _ => .stuck
    | none => .stuck
  | none => .stuck := rfl
@[simp ↓] theorem dFmt_ap (rows : List (Kl × DFn)) (t : DE) (e : En) (m : Mu) : dFmt rows t e m = (t e m).bind fun d m1 => match d with
  | .str y => if y.length ≤ sizeLine then .ok (.str y) m1 else .stuck
  | .int i => if i.natAbs.log2 < 1920 then .ok (.str (toString i)) m1 else .stuck
  | d => dOwnStr rows [d] m1 := rfl
@[simp ↓] theorem dJs_nil (acc : Str) (e : En) (m : Mu) : dJs [] acc e m = .ok (.str acc) m := rfl
@[simp ↓] theorem dJs_cons (t : DE) (ts : List DE) (acc : Str) (e : En) (m : Mu) : dJs (t :: ts) acc e m = (t e m).bind fun d m1 => match d with
  | .str y => if (acc ++ y).length ≤ sizeLine then dJs ts (acc ++ y) e m1 else .stuck
  | _ => .stuck := rfl
@[simp ↓] theorem dForS_ap (t : DE) (g : DG) (b : DS) (e : En) (m : Mu) : dForS t g b e m = rsOf e (t e m) fun d m1 => forS1 g b d e m1 := rfl
@[simp ↓] theorem dCompS_ap (fin : List D → Mu → Res D) (t : DE) (g : DG) (c : DT) (b : DE) (own : List Nat) (e : En) (m : Mu) : dCompS fin t g c b own e m = (t e m).bind fun d m1 => comp1 fin g c b (wipeE e own) d m1 := rfl
@[simp ↓] theorem dCompM_ap (t : DA) (g : DG) (c : DT) (b : DE) (own : List Nat) (e : En) (m : Mu) : dCompM t g c b own e m = (t e m).bind fun ds m1 => (dCompL g c b (wipeE e own) ds m1 []).bind fM := rfl
@[simp] theorem fF_ap (xs : List D) (m : Mu) : fF xs m = .ok (.lst xs) m := rfl
@[simp] theorem fM_ap (xs : List D) (m : Mu) : fM xs m = .ok (.loc m.length) (m ++ [.lst xs]) := rfl
@[simp] theorem comp1_lst (fin : List D → Mu → Res D) (g : DG) (c : DT) (b : DE) (e : En) (ds : List D) (m : Mu) : comp1 fin g c b e (.lst ds) m = (dCompL g c b e ds m []).bind fin := rfl
@[simp ↓] theorem dLm_ap (f : List D → List D → Option (List D × D)) (to : DE) (t : DA) (e : En) (m : Mu) : dLm f to t e m = (to e m).bind fun o m1 => match o with
  | .loc n => match m1[n]? with
    | some (.lst _) => (t e m1).bind fun ds m2 => match m2[n]? with
      | some (.lst xs) => match f xs ds with
        | some (ys, d) => .ok d (m2.set n (.lst ys))
        | none => .stuck
      | _ => .stuck
    | _ => .stuck
  | _ => .stuck := rfl
@[simp] theorem fAppend_ap (xs : List D) (d : D) : fAppend xs [d] = if xs.length < sizeLine then some (xs ++ [d], .non) else none := rfl
@[simp] theorem fClear_ap (xs : List D) : fClear xs [] = some ([], .non) := rfl
@[simp ↓] theorem dCompL_cons (g : DG) (c : DT) (b : DE) (e : En) (d : D) (ds : List D) (m : Mu) (acc : List D) : dCompL g c b e (d :: ds) m acc = match g d e with
    | none => .stuck
    | some e1 => match c e1 m with
      | .ok true m1 => match b e1 m1 with
        | .ok x m2 => if acc.length < sizeLine then dCompL g c b e ds m2 (acc ++ [x]) else .stuck
        | _ => .stuck
      | .ok false m1 => dCompL g c b e ds m1 acc
      | _ => .stuck := rfl
end DL

namespace DL
open PySem PySem.Spec PyProof.Rows L2
variable [LamTab]
section
variable {X : Cx} {e o : Expr} {es : List Expr} {t : DA} {pos p : Pos} {x : Str} {k : Nat} {C : Addr} {G : DFn}
noncomputable def dMakeK (C : Addr) (G : DFn) (n nk : Nat) (t u : DA) : DE := fun e m => (t e m).bind fun ds m1 => (u e m1).bind fun zs m2 => if ds.length = n ∧ zs.length = nk then mkObj C m2 (G (.loc m2.length :: (ds ++ zs)) (m2 ++ [.ins C []])) else .stuck
@[simp ↓] theorem dMakeK_ap (C : Addr) (G : DFn) (n nk : Nat) (t u : DA) (e : En) (m : Mu) : dMakeK C G n nk t u e m = (t e m).bind fun ds m1 => (u e m1).bind fun zs m2 => if ds.length = n ∧ zs.length = nk then mkObj C m2 (G (.loc m2.length :: (ds ++ zs)) (m2 ++ [.ins C []])) else .stuck := rfl
def gMinL : DFn := fun ds m => match ds with
  | [d] => match (seqL m d).bind toIs with
    | some (n :: ns) => .ok (.int (minI (n :: ns))) m
    | _ => .stuck
  | _ => .stuck
def gMaxL : DFn := fun ds m => match ds with
  | [d] => match (seqL m d).bind toIs with
    | some (n :: ns) => .ok (.int (maxI (n :: ns))) m
    | _ => .stuck
  | _ => .stuck
@[simp] theorem gMinL_ap (d : D) (m : Mu) : gMinL [d] m = match (seqL m d).bind toIs with
    | some (n :: ns) => .ok (.int (minI (n :: ns))) m
    | _ => .stuck := rfl
@[simp] theorem gMaxL_ap (d : D) (m : Mu) : gMaxL [d] m = match (seqL m d).bind toIs with
    | some (n :: ns) => .ok (.int (maxI (n :: ns))) m
    | _ => .stuck := rfl
end
end DL

namespace DL
open PySem PySem.Spec PyProof.Rows L2
variable [LamTab]
section
variable {X : Cx} {a b e o tg : Expr} {es : List Expr} {ta tb to te : DE} {t : DA} {pos p apos : Pos} {k : Nat}
def toSs : List D → Option (List Str)
  | [] => some []
  | .str b :: ds => match toSs ds with
    | some bs => some (b :: bs)
    | none => none
  | _ => none
def dJoin (to te : DE) : DE := fun e m => (to e m).bind fun o m1 => match o with
  | .str a => (te e m1).bind fun d m2 => match (seqA m2 d).bind toSs with
    | some ys => if (ys.map (·.length)).sum + ys.length * a.length ≤ 16777216 then .ok (.str (Txt.join a ys)) m2 else .stuck
    | none => .stuck
  | _ => .stuck
@[simp ↓] theorem dJoin_ap (to te : DE) (e : En) (m : Mu) : dJoin to te e m = (to e m).bind fun o m1 => match o with
  | .str a => (te e m1).bind fun d m2 => match (seqA m2 d).bind toSs with
    | some ys => if (ys.map (·.length)).sum + ys.length * a.length ≤ 16777216 then .ok (.str (Txt.join a ys)) m2 else .stuck
    | none => .stuck
  | _ => .stuck := rfl
def signs (x : Str) : List D := x.cps.toList.map fun c => .str ⟨#[c]⟩
def dItStr (t : DE) : DA := fun e m => (t e m).bind fun d m1 => match d with
  | .str x => .ok (signs x) m1
  | _ => .stuck
@[simp ↓] theorem dItStr_ap (t : DE) (e : En) (m : Mu) : dItStr t e m = (t e m).bind fun d m1 => match d with
  | .str x => .ok (signs x) m1
  | _ => .stuck := rfl
theorem pdi_str (ha : PDE X a ta) : PDI X tg a (dItStr ta) := by
  refine pdi_of (pi_str (mxE X a)) fun S r m σ R sa re p => ?_
  refine ha S r m σ _ sa re (PostI.bindI p fun d m1 v T st sa1 rd q => ?_)
  split at q
  · rename_i x
    cases rd
    refine ⟨x, rfl, q _ T (Stp.refl T) sa1 fun U m' i st' sa' => ⟨fun d hd => ?_, fun hl => ?_⟩⟩
    · unfold signs at hd
      rw [List.getElem?_map] at hd
      cases h : x.cps.toList[i]? with
      | none => rw [h] at hd; cases hd
      | some c =>
        rw [h] at hd
        cases hd
        have hi : i < x.cps.size := by simpa using (List.getElem?_eq_some_iff.mp h).1
        refine ⟨hi, fun y H' hy => ⟨U, hy.1.symm, Stp.refl U, sa', ?_⟩⟩
        obtain ⟨c', hc, rfl⟩ := hy.2
        have : c' = c := by
          rw [← Array.getElem?_toList] at hc
          rw [h] at hc
          exact (Option.some.inj hc).symm
        subst this
        exact .str _
    · show x.cps.size ≤ i
      unfold signs at hl
      simpa using hl
  · exact q.elim
def dSlStr (t : DE) (lo hi : DO) : DE := fun e m => (t e m).bind fun d m1 => (lo e m1).bind fun l m2 => (hi e m2).bind fun h m3 => match d with
  | .str z => if z.length ≤ sizeLine then .ok (.str (cutS z l h)) m3 else .stuck
  | _ => .stuck
@[simp ↓] theorem dSlStr_ap (t : DE) (lo hi : DO) (e : En) (m : Mu) : dSlStr t lo hi e m = (t e m).bind fun d m1 => (lo e m1).bind fun l m2 => (hi e m2).bind fun h m3 => match d with
  | .str z => if z.length ≤ sizeLine then .ok (.str (cutS z l h)) m3 else .stuck
  | _ => .stuck := rfl
theorem pd_slStr {lo hi : Option Expr} {tl th : DO} {p2 : Pos} (ha : PDE X a ta) (hl : PDO X lo tl) (hh : PDO X hi th) : PDE X (.Subscript a (.Slice lo hi none p2) pos) (dSlStr ta tl th) := by
  obtain ⟨ul, hl1, hl2⟩ := hl
  obtain ⟨uh, hh1, hh2⟩ := hh
  refine pd_of (pe_slice sl_str (mxE X a) hl1 hh1) fun S r m σ Q sa re p => ?_
  refine ha S r m σ _ sa re (Post.bindI p fun d m1 v T st sa1 rd q => ?_)
  refine hl2 T r m1 σ _ sa1 (re.stp st) (Post.bindI q fun l m2 l' U st2 sa2 rl q2 => ?_)
  have rl : l = l' := rl
  subst rl
  refine hh2 U r m2 σ _ sa2 ((re.stp st).stp st2) (Post.bindI q2 fun h m3 h' Y st3 sa3 rh q3 => ?_)
  have rh : h = h' := rh
  subst rh
  split at q3
  · rename_i z
    cases rd
    split at q3
    · rename_i hz
      exact ⟨z, rfl, hz, Post.ok q3 (Stp.refl Y) sa3 (.str _)⟩
    · exact q3.elim
  · exact q3.elim
def dSlT (t : DE) (lo hi : DO) : DE := fun e m => (t e m).bind fun d m1 => (lo e m1).bind fun l m2 => (hi e m2).bind fun h m3 => match d with
  | .tup ds => .ok (.tup (cutD ds l h)) m3
  | _ => .stuck
@[simp ↓] theorem dSlT_ap (t : DE) (lo hi : DO) (e : En) (m : Mu) : dSlT t lo hi e m = (t e m).bind fun d m1 => (lo e m1).bind fun l m2 => (hi e m2).bind fun h m3 => match d with
  | .tup ds => .ok (.tup (cutD ds l h)) m3
  | _ => .stuck := rfl
end
end DL

namespace GQ
open PySem PySem.SeqAt
open AutoSeq1 (wpAny_loadPart')
open MeetsSeq MeetsSeq2 MeetsSeq3 SeqRoads2
section
variable {prog : Program} {w : World} {A : Around} {R : Result → Shared → Prop}
def TwoL (l b : Addr) (N : Nat) (s : Shared) : Prop := ∃ (items items2 : Array Value) (n n2 : Nat) (dd dd2 : Option Addr) (sl sl2 : Array (Option Value)), s.heap.get? l = some { cls := .type "list", dict := dd, data := .seq items n, slots := sl } ∧ s.heap.get? b = some { cls := .type "list", dict := dd2, data := .seq items2 n2, slots := sl2 } ∧ items.size = N ∧ items2.size = N
def ListB (prog : Program) (w : World) (A : Around) (E : Value → Shared → Prop) (l b : Addr) (N : Nat) (I : Nat → Shared → Prop) (Fl : Shared → Prop) : Prop :=
  ∀ i s, I i s → ∃ (items items2 : Array Value) (n n2 : Nat) (dd dd2 : Option Addr) (sl sl2 : Array (Option Value)), s.heap.get? l = some { cls := .type "list", dict := dd, data := .seq items n, slots := sl } ∧ s.heap.get? b = some { cls := .type "list", dict := dd2, data := .seq items2 n2, slots := sl2 } ∧ items.size = N ∧ items2.size = N ∧
    ∀ (h1 : i < items.size) (h2 : i < items2.size), wpAny (model prog w) A.in1 (eqBool items[i] items2[i]) (fun r s' => if r then I (i + 1) s' else Fl s' ∧ TwoL l b N s') E s
theorem eq_loopE (l b : Addr) (N : Nat) (I : Nat → Shared → Prop) (Fl : Shared → Prop) (hl : ListB prog w A (fun e s' => R (.error e) s') l b N I Fl)
    (fin : ∀ s, I N s → R (.ok (.ret (.bool true))) s) (fal : ∀ s, Fl s → R (.ok (.ret (.bool false))) s) (k : Nat) :
    ∀ i : Nat, N - i = k → i ≤ N → ∀ s, I i s →
      wpAny (model prog w) A.in1 (Builtin.«list.__eq__.loop» ⟨[.ref l, .ref b, rawInt i, rawInt 2], []⟩) (FinOf prog w A R) (fun e s' => R (.error e) s') s := by
  induction k with
  | zero =>
    intro i hk hi s h
    obtain ⟨items, items2, n, n2, dd, dd2, sl, sl2, hl1, hb1, hs1, hs2, _⟩ := hl _ _ h
    have hi' : i = N := by omega
    have hR := fin s (hi' ▸ h)
    obtain ⟨hp, g, d, tk, os⟩ := s
    wp_walk using wpAny_loadPart' hl1, wpAny_loadPart' hb1
    have hi1 : items[((i : Nat) : Int).toNat]? = none := by simp; omega
    have hi2 : items2[((i : Nat) : Int).toNat]? = none := by simp; omega
    rw [hi1, hi2]
    wp_walk using wpAny_loadPart' hl1, wpAny_loadPart' hb1
    show R (.ok (.ret (.bool (items.size == items2.size)))) _
    rw [hs1, hs2]
    simpa using hR
  | succ k ih =>
    intro i hk hi s h
    obtain ⟨items, items2, n, n2, dd, dd2, sl, sl2, hl1, hb1, hs1, hs2, turn⟩ := hl _ _ h
    have hlt : i < items.size := by omega
    have hlt2 : i < items2.size := by omega
    have ht := turn hlt hlt2
    obtain ⟨hp, g, d, tk, os⟩ := s
    wp_walk using wpAny_loadPart' hl1, wpAny_loadPart' hb1
    have hi1 : items[((i : Nat) : Int).toNat]? = some items[i] := by simp [hlt]
    have hi2 : items2[((i : Nat) : Int).toNat]? = some items2[i] := by simp [hlt2]
    have hc : ((i : Int) + 1) = ((i + 1 : Nat) : Int) := by omega
    rw [hi1, hi2]
    refine wpAny_bind (wpAny_mono ht (fun r s2 h2 => ?_) fun _ _ x => x)
    cases r with
    | true =>
      have h2 : I (i + 1) s2 := h2
      have hrec := ih (i + 1) (by omega) (by omega) s2 h2
      obtain ⟨hp2, g2, d2, tk2, os2⟩ := s2
      wp_walk
      rw [hc]
      exact ⟨plainId_quiet plain_eq_loop _, codeAny_builtin entry_eq_loop (by
        rw [Around.under_plainId plain_eq_loop _]
        exact hrec)⟩
    | false =>
      obtain ⟨h2, it3, it4, n3, n4, dd3, dd4, sl3, sl4, hl3, hb3, hs3, hs4⟩ := (h2 : Fl s2 ∧ _)
      have hR := fal s2 h2
      have hlt3 : i < it3.size := by omega
      have hlt4 : i < it4.size := by omega
      have hi3 : it3[((i : Nat) : Int).toNat]? = some it3[i] := by simp [hlt3]
      have hi4 : it4[((i : Nat) : Int).toNat]? = some it4[i] := by simp [hlt4]
      obtain ⟨hp2, g2, d2, tk2, os2⟩ := s2
      wp_walk using wpAny_loadPart' hl3, wpAny_loadPart' hb3
      rw [hi3, hi4]
      wp_walk
      simpa using hR
theorem list_eqB (l b : Addr) (N : Nat) (I : Nat → Shared → Prop) (Fl : Shared → Prop) (hl : ListB prog w A (fun e s' => R (.error e) s') l b N I Fl)
    (fin : ∀ s, I N s → R (.ok (.ret (.bool true))) s) (fal : ∀ s, Fl s → R (.ok (.ret (.bool false))) s) {s : Shared} (h : I 0 s) :
    wpAny (model prog w) A.in1 (Builtin.«list.__eq__» ⟨[.ref l, .ref b], []⟩) (FinOf prog w A R) (fun e s' => R (.error e) s') s := by
  obtain ⟨items, items2, n, n2, dd, dd2, sl, sl2, hl1, hb1, hs1, hs2, _⟩ := hl _ _ h
  have hrec := eq_loopE (A := A) (R := R) l b N I Fl hl fin fal _ 0 rfl (Nat.zero_le _) s h
  obtain ⟨hp, g, d, tk, os⟩ := s
  have f3 := AutoSeq1.sub_list_list
  have hne : ¬ (items.size != items2.size) = true := by simp [hs1, hs2]
  wp_walk using wpAny_loadPart' hl1, wpAny_loadPart' hb1
  exact ⟨plainId_quiet plain_eq_loop _, codeAny_builtin entry_eq_loop (by
    rw [Around.under_plainId plain_eq_loop _]
    exact hrec)⟩
theorem list_eqL (l b : Addr) (items items2 : Array Value) (n n2 : Nat) (dd dd2 : Option Addr) (sl sl2 : Array (Option Value)) (hsz : items.size ≠ items2.size) {s : Shared} (hl1 : s.heap.get? l = some { cls := .type "list", dict := dd, data := .seq items n, slots := sl }) (hb1 : s.heap.get? b = some { cls := .type "list", dict := dd2, data := .seq items2 n2, slots := sl2 })
    (fal : R (.ok (.ret (.bool false))) s) :
    wpAny (model prog w) A.in1 (Builtin.«list.__eq__» ⟨[.ref l, .ref b], []⟩) (FinOf prog w A R) (fun e s' => R (.error e) s') s := by
  obtain ⟨hp, g, d, tk, os⟩ := s
  have f3 := AutoSeq1.sub_list_list
  have hne : (items.size != items2.size) = true := by simp [hsz]
  wp_walk using wpAny_loadPart' hl1, wpAny_loadPart' hb1
  exact fal
theorem tuple_eqB (l b : Addr) (items items2 : Array Value) (n n2 : Nat) (dd dd2 : Option Addr) (sl sl2 : Array (Option Value)) (I : Nat → Shared → Prop) (Fl : Shared → Prop)
    (turn : ∀ i (h1 : i < items.size) (h2 : i < items2.size) s, I i s → wpAny (model prog w) A.in1 (eqBool items[i] items2[i]) (fun r s' => if r then I (i + 1) s' else Fl s') (fun e s' => R (.error e) s') s)
    (fin : ∀ s, I (min items.size items2.size) s → R (.ok (.ret (.bool (items.size == items2.size)))) s) (fal : ∀ s, Fl s → R (.ok (.ret (.bool false))) s) {s : Shared} (hl1 : s.heap.get? l = some { cls := .type "tuple", dict := dd, data := .seq items n, slots := sl }) (hb1 : s.heap.get? b = some { cls := .type "tuple", dict := dd2, data := .seq items2 n2, slots := sl2 }) (h : I 0 s) :
    wpAny (model prog w) A.in1 (Builtin.«tuple.__eq__» ⟨[.ref l, .ref b], []⟩) (FinOf prog w A R) (fun e s' => R (.error e) s') s := by
  have f2 := AutoSeq1.sub_tuple_tuple
  have hZ : (items.toList.zip items2.toList).length = min items.size items2.size := by simp
  have h0 := h
  obtain ⟨hp, g, d, tk, os⟩ := s
  wp_walk using wpAny_loadPart' hl1, wpAny_loadPart' hb1, wpAny_forIn_list _ (fun rest b s' => (b.1 = none ∧ ∃ i, rest = (items.toList.zip items2.toList).drop i ∧ i ≤ min items.size items2.size ∧ I i s') ∨ (rest = [] ∧ b.1 = some (.done (.ret (.bool false))) ∧ Fl s')) _
  case turn =>
    rintro ⟨y, x⟩ rest b s' hyp
    rcases hyp with ⟨hb', i, hz, hi, hI⟩ | ⟨hz, _, _⟩
    · have hlt : i < (items.toList.zip items2.toList).length := by
        rcases Nat.lt_or_ge i (items.toList.zip items2.toList).length with h' | h'
        · exact h'
        · rw [List.drop_of_length_le h'] at hz; cases hz
      have h1 : i < items.size := by omega
      have h2 : i < items2.size := by omega
      rw [List.drop_eq_getElem_cons hlt] at hz
      injection hz with hyx hrest
      have hy : y = items[i] := by have := congrArg Prod.fst hyx; simpa using this
      have hx : x = items2[i] := by have := congrArg Prod.snd hyx; simpa using this
      subst hy hx
      refine wpAny_bind (wpAny_mono (turn i h1 h2 s' hI) (fun r s2 q2 => ?_) fun _ _ x => x)
      cases r with
      | true =>
        have q2 : I (i + 1) s2 := q2
        wp_walk
        exact .inl ⟨rfl, i + 1, hrest, by omega, q2⟩
      | false =>
        have q2 : Fl s2 := q2
        wp_walk
        exact fal s2 q2
    · cases hz
  case fin =>
    rintro ⟨b1, b2⟩ s' hyp
    rcases hyp with ⟨hb', i, hz, hi, hI⟩ | ⟨_, hb', hF⟩
    · simp only at hb'
      subst hb'
      have hge : min items.size items2.size ≤ i := by
        rcases Nat.lt_or_ge i (items.toList.zip items2.toList).length with h' | h'
        · rw [List.drop_eq_getElem_cons h'] at hz; cases hz
        · omega
      have hi' : i = min items.size items2.size := by omega
      have hR := fin s' (hi' ▸ hI)
      wp_walk
      simpa [Builtin.Tuple.tupleCompareSizes] using hR
    · simp only at hb'
      subst hb'
      have hR := fal s' hF
      wp_walk
      exact hR
  case h =>
    exact .inl ⟨rfl, 0, rfl, Nat.zero_le _, h0⟩
theorem eq_loopN (l b : Addr) (N : Nat) (I : Nat → Shared → Prop) (Fl : Shared → Prop) (hl : ListB prog w A (fun e s' => R (.error e) s') l b N I Fl)
    (fin : ∀ s, I N s → R (.ok (.ret (.bool false))) s) (fal : ∀ s, Fl s → R (.ok (.ret (.bool true))) s) (k : Nat) :
    ∀ i : Nat, N - i = k → i ≤ N → ∀ s, I i s →
      wpAny (model prog w) A.in1 (Builtin.«list.__eq__.loop» ⟨[.ref l, .ref b, rawInt i, rawInt 3], []⟩) (FinOf prog w A R) (fun e s' => R (.error e) s') s := by
  induction k with
  | zero =>
    intro i hk hi s h
    obtain ⟨items, items2, n, n2, dd, dd2, sl, sl2, hl1, hb1, hs1, hs2, _⟩ := hl _ _ h
    have hi' : i = N := by omega
    have hR := fin s (hi' ▸ h)
    obtain ⟨hp, g, d, tk, os⟩ := s
    wp_walk using wpAny_loadPart' hl1, wpAny_loadPart' hb1
    have hi1 : items[((i : Nat) : Int).toNat]? = none := by simp; omega
    have hi2 : items2[((i : Nat) : Int).toNat]? = none := by simp; omega
    rw [hi1, hi2]
    wp_walk using wpAny_loadPart' hl1, wpAny_loadPart' hb1
    show R (.ok (.ret (.bool (items.size != items2.size)))) _
    rw [hs1, hs2]
    simpa using hR
  | succ k ih =>
    intro i hk hi s h
    obtain ⟨items, items2, n, n2, dd, dd2, sl, sl2, hl1, hb1, hs1, hs2, turn⟩ := hl _ _ h
    have hlt : i < items.size := by omega
    have hlt2 : i < items2.size := by omega
    have ht := turn hlt hlt2
    obtain ⟨hp, g, d, tk, os⟩ := s
    wp_walk using wpAny_loadPart' hl1, wpAny_loadPart' hb1
    have hi1 : items[((i : Nat) : Int).toNat]? = some items[i] := by simp [hlt]
    have hi2 : items2[((i : Nat) : Int).toNat]? = some items2[i] := by simp [hlt2]
    have hc : ((i : Int) + 1) = ((i + 1 : Nat) : Int) := by omega
    rw [hi1, hi2]
    refine wpAny_bind (wpAny_mono ht (fun r s2 h2 => ?_) fun _ _ x => x)
    cases r with
    | true =>
      have h2 : I (i + 1) s2 := h2
      have hrec := ih (i + 1) (by omega) (by omega) s2 h2
      obtain ⟨hp2, g2, d2, tk2, os2⟩ := s2
      wp_walk
      rw [hc]
      exact ⟨plainId_quiet plain_eq_loop _, codeAny_builtin entry_eq_loop (by
        rw [Around.under_plainId plain_eq_loop _]
        exact hrec)⟩
    | false =>
      obtain ⟨h2, it3, it4, n3, n4, dd3, dd4, sl3, sl4, hl3, hb3, hs3, hs4⟩ := (h2 : Fl s2 ∧ _)
      have hR := fal s2 h2
      have hlt3 : i < it3.size := by omega
      have hlt4 : i < it4.size := by omega
      have hi3 : it3[((i : Nat) : Int).toNat]? = some it3[i] := by simp [hlt3]
      have hi4 : it4[((i : Nat) : Int).toNat]? = some it4[i] := by simp [hlt4]
      obtain ⟨hp2, g2, d2, tk2, os2⟩ := s2
      wp_walk using wpAny_loadPart' hl3, wpAny_loadPart' hb3
      rw [hi3, hi4]
      wp_walk
      simpa using hR
theorem list_neB (l b : Addr) (N : Nat) (I : Nat → Shared → Prop) (Fl : Shared → Prop) (hl : ListB prog w A (fun e s' => R (.error e) s') l b N I Fl)
    (fin : ∀ s, I N s → R (.ok (.ret (.bool false))) s) (fal : ∀ s, Fl s → R (.ok (.ret (.bool true))) s) {s : Shared} (h : I 0 s) :
    wpAny (model prog w) A.in1 (Builtin.«list.__ne__» ⟨[.ref l, .ref b], []⟩) (FinOf prog w A R) (fun e s' => R (.error e) s') s := by
  obtain ⟨items, items2, n, n2, dd, dd2, sl, sl2, hl1, hb1, hs1, hs2, _⟩ := hl _ _ h
  have hrec := eq_loopN (A := A) (R := R) l b N I Fl hl fin fal _ 0 rfl (Nat.zero_le _) s h
  obtain ⟨hp, g, d, tk, os⟩ := s
  have f3 := AutoSeq1.sub_list_list
  have hne : ¬ (items.size != items2.size) = true := by simp [hs1, hs2]
  wp_walk using wpAny_loadPart' hl1, wpAny_loadPart' hb1
  exact ⟨plainId_quiet plain_eq_loop _, codeAny_builtin entry_eq_loop (by
    rw [Around.under_plainId plain_eq_loop _]
    exact hrec)⟩
theorem list_neL (l b : Addr) (items items2 : Array Value) (n n2 : Nat) (dd dd2 : Option Addr) (sl sl2 : Array (Option Value)) (hsz : items.size ≠ items2.size) {s : Shared} (hl1 : s.heap.get? l = some { cls := .type "list", dict := dd, data := .seq items n, slots := sl }) (hb1 : s.heap.get? b = some { cls := .type "list", dict := dd2, data := .seq items2 n2, slots := sl2 })
    (fal : R (.ok (.ret (.bool true))) s) :
    wpAny (model prog w) A.in1 (Builtin.«list.__ne__» ⟨[.ref l, .ref b], []⟩) (FinOf prog w A R) (fun e s' => R (.error e) s') s := by
  obtain ⟨hp, g, d, tk, os⟩ := s
  have f3 := AutoSeq1.sub_list_list
  have hne : (items.size != items2.size) = true := by simp [hsz]
  wp_walk using wpAny_loadPart' hl1, wpAny_loadPart' hb1
  exact fal
theorem tuple_neB (l b : Addr) (items items2 : Array Value) (n n2 : Nat) (dd dd2 : Option Addr) (sl sl2 : Array (Option Value)) (I : Nat → Shared → Prop) (Fl : Shared → Prop)
    (turn : ∀ i (h1 : i < items.size) (h2 : i < items2.size) s, I i s → wpAny (model prog w) A.in1 (eqBool items[i] items2[i]) (fun r s' => if r then I (i + 1) s' else Fl s') (fun e s' => R (.error e) s') s)
    (fin : ∀ s, I (min items.size items2.size) s → R (.ok (.ret (.bool (items.size != items2.size)))) s) (fal : ∀ s, Fl s → R (.ok (.ret (.bool true))) s) {s : Shared} (hl1 : s.heap.get? l = some { cls := .type "tuple", dict := dd, data := .seq items n, slots := sl }) (hb1 : s.heap.get? b = some { cls := .type "tuple", dict := dd2, data := .seq items2 n2, slots := sl2 }) (h : I 0 s) :
    wpAny (model prog w) A.in1 (Builtin.«tuple.__ne__» ⟨[.ref l, .ref b], []⟩) (FinOf prog w A R) (fun e s' => R (.error e) s') s := by
  have f2 := AutoSeq1.sub_tuple_tuple
  have hZ : (items.toList.zip items2.toList).length = min items.size items2.size := by simp
  have h0 := h
  obtain ⟨hp, g, d, tk, os⟩ := s
  wp_walk using wpAny_loadPart' hl1, wpAny_loadPart' hb1, wpAny_forIn_list _ (fun rest b s' => (b.1 = none ∧ ∃ i, rest = (items.toList.zip items2.toList).drop i ∧ i ≤ min items.size items2.size ∧ I i s') ∨ (rest = [] ∧ b.1 = some (.done (.ret (.bool true))) ∧ Fl s')) _
  case turn =>
    rintro ⟨y, x⟩ rest b s' hyp
    rcases hyp with ⟨hb', i, hz, hi, hI⟩ | ⟨hz, _, _⟩
    · have hlt : i < (items.toList.zip items2.toList).length := by
        rcases Nat.lt_or_ge i (items.toList.zip items2.toList).length with h' | h'
        · exact h'
        · rw [List.drop_of_length_le h'] at hz; cases hz
      have h1 : i < items.size := by omega
      have h2 : i < items2.size := by omega
      rw [List.drop_eq_getElem_cons hlt] at hz
      injection hz with hyx hrest
      have hy : y = items[i] := by have := congrArg Prod.fst hyx; simpa using this
      have hx : x = items2[i] := by have := congrArg Prod.snd hyx; simpa using this
      subst hy hx
      refine wpAny_bind (wpAny_mono (turn i h1 h2 s' hI) (fun r s2 q2 => ?_) fun _ _ x => x)
      cases r with
      | true =>
        have q2 : I (i + 1) s2 := q2
        wp_walk
        exact .inl ⟨rfl, i + 1, hrest, by omega, q2⟩
      | false =>
        have q2 : Fl s2 := q2
        wp_walk
        exact fal s2 q2
    · cases hz
  case fin =>
    rintro ⟨b1, b2⟩ s' hyp
    rcases hyp with ⟨hb', i, hz, hi, hI⟩ | ⟨_, hb', hF⟩
    · simp only at hb'
      subst hb'
      have hge : min items.size items2.size ≤ i := by
        rcases Nat.lt_or_ge i (items.toList.zip items2.toList).length with h' | h'
        · rw [List.drop_eq_getElem_cons h'] at hz; cases hz
        · omega
      have hi' : i = min items.size items2.size := by omega
      have hR := fin s' (hi' ▸ hI)
      wp_walk
      simpa [Builtin.Tuple.tupleCompareSizes] using hR
    · simp only at hb'
      subst hb'
      have hR := fal s' hF
      wp_walk
      exact hR
  case h =>
    exact .inl ⟨rfl, 0, rfl, Nat.zero_le _, h0⟩
end
end GQ

namespace GQ
open PySem PySem.SeqAt PySem.Spec PyProof.Rows L2
open MeetsSeq MeetsSeq2 MeetsSeq3 SeqRoads2
section
variable {prog : Program} {w : World} {A : Around} {E : Value → Shared → Prop} {s : Shared}
theorem rc_listB {l b : Addr} {N : Nat} {Q : Value → Shared → Prop} (hu : A.units < cLine) (I : Nat → Shared → Prop) (Fl : Shared → Prop) (hl : ListB prog w A E l b N I Fl)
    (fin : ∀ s, I N s → Q (.bool true) s) (fal : ∀ s, Fl s → Q (.bool false) s) (h : I 0 s) : wpAny (model prog w) A (richCompare .Eq (.ref l) (.ref b)) Q E s := by
  obtain ⟨items, items2, n, n2, dd, dd2, sl, sl2, hl1, hb1, _, _, _⟩ := hl _ _ h
  refine wpAny_richCompare_same_room (op := .Eq) ⟨_, hl1, rfl⟩ ⟨_, hb1, rfl⟩ F.slot_list_eq (call_here F.slot_list_eq ⟨_, hl1, rfl⟩ F.entry_list_eq (F.args_list_eq_2 _ _) ?_) hu
  exact list_eqB (R := wants (fun v s' => v ≠ .notImplemented ∧ Q v s') E) l b N I Fl hl (fun s' q => ⟨(fun x => nomatch x), fin s' q⟩) (fun s' q => ⟨(fun x => nomatch x), fal s' q⟩) h
theorem rc_listNe {l b : Addr} {N : Nat} {Q : Value → Shared → Prop} (hu : A.units < cLine) (I : Nat → Shared → Prop) (Fl : Shared → Prop) (hl : ListB prog w A E l b N I Fl)
    (fin : ∀ s, I N s → Q (.bool false) s) (fal : ∀ s, Fl s → Q (.bool true) s) (h : I 0 s) : wpAny (model prog w) A (richCompare .NotEq (.ref l) (.ref b)) Q E s := by
  obtain ⟨items, items2, n, n2, dd, dd2, sl, sl2, hl1, hb1, _, _, _⟩ := hl _ _ h
  refine wpAny_richCompare_same_room (op := .NotEq) ⟨_, hl1, rfl⟩ ⟨_, hb1, rfl⟩ F.slot_list_ne (call_here F.slot_list_ne ⟨_, hl1, rfl⟩ F.entry_list_ne (F.args_list_ne_2 _ _) ?_) hu
  exact list_neB (R := wants (fun v s' => v ≠ .notImplemented ∧ Q v s') E) l b N I Fl hl (fun s' q => ⟨(fun x => nomatch x), fin s' q⟩) (fun s' q => ⟨(fun x => nomatch x), fal s' q⟩) h
theorem rc_listL {l b : Addr} {items items2 : Array Value} {n n2 : Nat} {dd dd2 : Option Addr} {sl sl2 : Array (Option Value)} {Q : Value → Shared → Prop} (hu : A.units < cLine) (hl1 : s.heap.get? l = some { cls := .type "list", dict := dd, data := .seq items n, slots := sl }) (hb1 : s.heap.get? b = some { cls := .type "list", dict := dd2, data := .seq items2 n2, slots := sl2 })
    (hsz : items.size ≠ items2.size) (h : Q (.bool false) s) : wpAny (model prog w) A (richCompare .Eq (.ref l) (.ref b)) Q E s := by
  refine wpAny_richCompare_same_room (op := .Eq) ⟨_, hl1, rfl⟩ ⟨_, hb1, rfl⟩ F.slot_list_eq (call_here F.slot_list_eq ⟨_, hl1, rfl⟩ F.entry_list_eq (F.args_list_eq_2 _ _) ?_) hu
  exact list_eqL (R := wants (fun v s' => v ≠ .notImplemented ∧ Q v s') E) l b items items2 n n2 dd dd2 sl sl2 hsz hl1 hb1 ⟨(fun x => nomatch x), h⟩
theorem rc_listLNe {l b : Addr} {items items2 : Array Value} {n n2 : Nat} {dd dd2 : Option Addr} {sl sl2 : Array (Option Value)} {Q : Value → Shared → Prop} (hu : A.units < cLine) (hl1 : s.heap.get? l = some { cls := .type "list", dict := dd, data := .seq items n, slots := sl }) (hb1 : s.heap.get? b = some { cls := .type "list", dict := dd2, data := .seq items2 n2, slots := sl2 })
    (hsz : items.size ≠ items2.size) (h : Q (.bool true) s) : wpAny (model prog w) A (richCompare .NotEq (.ref l) (.ref b)) Q E s := by
  refine wpAny_richCompare_same_room (op := .NotEq) ⟨_, hl1, rfl⟩ ⟨_, hb1, rfl⟩ F.slot_list_ne (call_here F.slot_list_ne ⟨_, hl1, rfl⟩ F.entry_list_ne (F.args_list_ne_2 _ _) ?_) hu
  exact list_neL (R := wants (fun v s' => v ≠ .notImplemented ∧ Q v s') E) l b items items2 n n2 dd dd2 sl sl2 hsz hl1 hb1 ⟨(fun x => nomatch x), h⟩
theorem rc_tupB {l b : Addr} {items items2 : Array Value} {Q : Value → Shared → Prop} (hu : A.units < cLine) (I : Nat → Shared → Prop) (Fl : Shared → Prop)
    (hl : s.heap.IsTuple l items) (hb : s.heap.IsTuple b items2)
    (turn : ∀ i (h1 : i < items.size) (h2 : i < items2.size) s, I i s → wpAny (model prog w) A.in1 (eqBool items[i] items2[i]) (fun r s' => if r then I (i + 1) s' else Fl s') E s)
    (fin : ∀ s, I (min items.size items2.size) s → Q (.bool (items.size == items2.size)) s) (fal : ∀ s, Fl s → Q (.bool false) s) (h : I 0 s) : wpAny (model prog w) A (richCompare .Eq (.ref l) (.ref b)) Q E s := by
  obtain ⟨⟨cls, dd, data, sl⟩, ho, hc, n, hd⟩ := id hl
  obtain ⟨⟨cls2, dd2, data2, sl2⟩, ho2, hc2, n2, hd2⟩ := id hb
  simp only at hc hd hc2 hd2
  subst hc hd hc2 hd2
  refine wpAny_richCompare_same_room (op := .Eq) ⟨_, ho, rfl⟩ ⟨_, ho2, rfl⟩ F.slot_tuple_eq (call_here F.slot_tuple_eq ⟨_, ho, rfl⟩ F.entry_tuple_eq (F.args_tuple_eq_2 _ _) ?_) hu
  exact tuple_eqB (R := wants (fun v s' => v ≠ .notImplemented ∧ Q v s') E) l b items items2 n n2 dd dd2 sl sl2 I Fl turn (fun s' q => ⟨(fun x => nomatch x), fin s' q⟩) (fun s' q => ⟨(fun x => nomatch x), fal s' q⟩) ho ho2 h
theorem rc_tupNe {l b : Addr} {items items2 : Array Value} {Q : Value → Shared → Prop} (hu : A.units < cLine) (I : Nat → Shared → Prop) (Fl : Shared → Prop)
    (hl : s.heap.IsTuple l items) (hb : s.heap.IsTuple b items2)
    (turn : ∀ i (h1 : i < items.size) (h2 : i < items2.size) s, I i s → wpAny (model prog w) A.in1 (eqBool items[i] items2[i]) (fun r s' => if r then I (i + 1) s' else Fl s') E s)
    (fin : ∀ s, I (min items.size items2.size) s → Q (.bool (items.size != items2.size)) s) (fal : ∀ s, Fl s → Q (.bool true) s) (h : I 0 s) : wpAny (model prog w) A (richCompare .NotEq (.ref l) (.ref b)) Q E s := by
  obtain ⟨⟨cls, dd, data, sl⟩, ho, hc, n, hd⟩ := id hl
  obtain ⟨⟨cls2, dd2, data2, sl2⟩, ho2, hc2, n2, hd2⟩ := id hb
  simp only at hc hd hc2 hd2
  subst hc hd hc2 hd2
  refine wpAny_richCompare_same_room (op := .NotEq) ⟨_, ho, rfl⟩ ⟨_, ho2, rfl⟩ F.slot_tuple_ne (call_here F.slot_tuple_ne ⟨_, ho, rfl⟩ F.entry_tuple_ne (F.args_tuple_ne_2 _ _) ?_) hu
  exact tuple_neB (R := wants (fun v s' => v ≠ .notImplemented ∧ Q v s') E) l b items items2 n n2 dd dd2 sl sl2 I Fl turn (fun s' q => ⟨(fun x => nomatch x), fin s' q⟩) (fun s' q => ⟨(fun x => nomatch x), fal s' q⟩) ho ho2 h
end
end GQ
namespace DL
open PySem PySem.Spec PyProof.Rows L2
variable [LamTab]
mutual
def solid : D → Bool
  | .non => true
  | .bl _ => true
  | .int _ => true
  | .str _ => true
  | .tup ds => solids ds
  | .lst ds => solids ds
  | .obj _ ds => solids ds
  | .loc _ => false
  | .val _ => false
  | .xob _ _ => false
  | .lam _ _ => false
  | .clo _ _ => false
def solids : List D → Bool
  | [] => true
  | d :: ds => solid d && solids ds
end
theorem relV_abs : ∀ {x : V} {u : Value}, RelV x u → absV u = some x
  | .non, _, h => by cases h; rfl
  | .bl _, _, h => by cases h; rfl
  | .int _, _, ⟨t, h⟩ => by cases h; rfl
  | .str _, _, ⟨t, h⟩ => by cases h; rfl
  | .byt _, _, ⟨t, h⟩ => by cases h; rfl
  | .flt _, _, ⟨t, h⟩ => by cases h; rfl
  | .ref _, _, h => by cases h; rfl
  | .ty _, _, h => by cases h; rfl
theorem relV_inj {x y : V} {u : Value} (h : RelV x u) (k : RelV y u) : x = y := Option.some.inj ((relV_abs h).symm.trans (relV_abs k))
theorem vals_inj : ∀ {xs ys : List V} {us : List Value}, Vals xs us → Vals ys us → xs = ys
  | _, _, _, .nil, .nil => rfl
  | _, _, _, .cons h r, .cons h' r' => by rw [relV_inj h h', vals_inj r r']
section
variable {X : Cx} {pins : List (Addr × Obj)} {σ : L2.St} {S : Wd} {m : Mu} {s : Shared}
theorem sqT_inj {H : Hp} (I : Inv X pins σ H s) {a : Addr} {xs ys : List V} (h : SqT X.K H a xs) (k : SqT X.K H a ys) : xs = ys := by
  obtain ⟨its, r, ⟨o, ho, hc, n, hd⟩, _⟩ := I.tuple h
  obtain ⟨its2, r2, ⟨o2, ho2, hc2, n2, hd2⟩, _⟩ := I.tuple k
  rw [ho] at ho2
  cases ho2
  rw [hd] at hd2
  injection hd2 with e1 e2
  have : its = its2 := by simpa using congrArg Array.toList e1
  subst this
  exact vals_inj r r2
theorem sqL_inj {H : Hp} (I : Inv X pins σ H s) {a : Addr} {xs ys : List V} (h : SqL X.K H a xs) (k : SqL X.K H a ys) : xs = ys := by
  obtain ⟨its, r, ⟨o, n, ho, hc, _, hd⟩, _⟩ := I.list h
  obtain ⟨its2, r2, ⟨o2, n2, ho2, hc2, _, hd2⟩, _⟩ := I.list k
  rw [ho] at ho2
  cases ho2
  rw [hd] at hd2
  injection hd2 with e1 e2
  have : its = its2 := by simpa using congrArg Array.toList e1
  subst this
  exact vals_inj r r2
theorem sq_no {H : Hp} (I : Inv X pins σ H s) {a : Addr} {xs ys : List V} (h : SqT X.K H a xs) (k : SqL X.K H a ys) : False := by
  obtain ⟨its, r, ⟨o, ho, hc, n, hd⟩, _⟩ := I.tuple h
  obtain ⟨its2, r2, ⟨o2, n2, ho2, hc2, _, hd2⟩, _⟩ := I.list k
  rw [ho] at ho2
  cases ho2
  rw [hc] at hc2
  injection hc2 with e
  exact absurd e (by decide)
theorem insT_no {H : Hp} (I : Inv X pins σ H s) {a C dx : Addr} {fs : List (Str × V)} {xs : List V} (h : SqT X.K H a xs) (k : H a = some (.ins C dx fs)) : False := by
  obtain ⟨its, r, ⟨o, ho, hc, n, hd⟩, _⟩ := I.tuple h
  obtain ⟨od, J⟩ := Inv.inst I k
  rw [J.at_] at ho
  cases ho
  cases hc
theorem insL_no {H : Hp} (I : Inv X pins σ H s) {a C dx : Addr} {fs : List (Str × V)} {xs : List V} (h : SqL X.K H a xs) (k : H a = some (.ins C dx fs)) : False := by
  obtain ⟨its, r, ⟨o, n, ho, hc, _, hd⟩, _⟩ := I.list h
  obtain ⟨od, J⟩ := Inv.inst I k
  rw [J.at_] at ho
  cases ho
  cases hc
mutual
theorem rep_inj (I : Inv X pins σ S.H s) (sa : Sta X.K S m) : ∀ (x : D) {y : D} {v : V}, solid x = true → solid y = true → Rep X.K S.i S.F x v → Rep X.K S.i S.F y v → x = y
  | .non, y, v, _, h, r, q => by cases r; cases q <;> first | rfl | simp [solid] at h
  | .bl b, y, v, _, h, r, q => by cases r; cases q <;> first | rfl | simp [solid] at h
  | .int b, y, v, _, h, r, q => by cases r; cases q <;> first | rfl | simp [solid] at h
  | .str b, y, v, _, h, r, q => by cases r; cases q <;> first | rfl | simp [solid] at h
  | .tup ds, y, v, g, h, r, q => by
    cases r with
    | tup h1 h2 =>
      cases q with
      | tup k1 k2 =>
        have e := sqT_inj I (SqT.ext' h1 sa.sub) (SqT.ext' k1 sa.sub)
        subst e
        rw [reps_inj I sa ds (by simpa [solid] using g) (by simpa [solid] using h) h2 k2]
      | lst k1 k2 => exact (sq_no I (SqT.ext' h1 sa.sub) (SqL.ext' k1 sa.sub)).elim
      | obj k1 k2 k3 => exact (insT_no I (SqT.ext' h1 sa.sub) (sa.sub _ _ k1)).elim
      | _ => simp [solid] at h
  | .lst ds, y, v, g, h, r, q => by
    cases r with
    | lst h1 h2 =>
      cases q with
      | lst k1 k2 =>
        have e := sqL_inj I (SqL.ext' h1 sa.sub) (SqL.ext' k1 sa.sub)
        subst e
        rw [reps_inj I sa ds (by simpa [solid] using g) (by simpa [solid] using h) h2 k2]
      | tup k1 k2 => exact (sq_no I (SqT.ext' k1 sa.sub) (SqL.ext' h1 sa.sub)).elim
      | obj k1 k2 k3 => exact (insL_no I (SqL.ext' h1 sa.sub) (sa.sub _ _ k1)).elim
      | _ => simp [solid] at h
  | .obj c ds, y, v, g, h, r, q => by
    cases r with
    | obj h1 h2 h3 =>
      cases q with
      | @obj c' ds' a' dx' vs' k1 k2 k3 =>
        rw [h1] at k1
        injection k1 with k1
        injection k1 with e1 e2 e3
        subst e3
        obtain ⟨a, ns⟩ := c
        obtain ⟨a', ns'⟩ := c'
        simp only at e1 h2 k2
        subst e1
        rw [← h2, ← k2, reps_inj I sa ds (by simpa [solid] using g) (by simpa [solid] using h) h3 k3]
      | tup k1 k2 => exact (insT_no I (SqT.ext' k1 sa.sub) (sa.sub _ _ h1)).elim
      | lst k1 k2 => exact (insL_no I (SqL.ext' k1 sa.sub) (sa.sub _ _ h1)).elim
      | _ => simp [solid] at h
  | .loc _, _, _, g, _, _, _ => by simp [solid] at g
  | .val _, _, _, g, _, _, _ => by simp [solid] at g
  | .xob _ _, _, _, g, _, _, _ => by simp [solid] at g
  | .lam _ _, _, _, g, _, _, _ => by simp [solid] at g
  | .clo _ _, _, _, g, _, _, _ => by simp [solid] at g
theorem reps_inj (I : Inv X pins σ S.H s) (sa : Sta X.K S m) : ∀ (xs : List D) {ys : List D} {vs : List V}, solids xs = true → solids ys = true → Reps X.K S.i S.F xs vs → Reps X.K S.i S.F ys vs → xs = ys
  | [], ys, vs, _, _, r, q => by cases r; cases q; rfl
  | x :: xs, ys, vs, g, h, r, q => by
    cases r with
    | cons h1 h2 =>
      cases q with
      | cons k1 k2 =>
        simp only [solids, Bool.and_eq_true] at g h
        rw [rep_inj I sa x g.1 h.1 h1 k1, reps_inj I sa xs g.2 h.2 h2 k2]
end
end
open Classical in
noncomputable def pureB (r : Res D) (m : Mu) : Option Bool := match r with
  | .ok (.bl b) m1 => if m1 = m then some b else none
  | _ => none
def eqXs (f : D → D → Option Bool) : List D → List D → Option Bool
  | x :: xs, y :: ys => match f x y with
    | some true => eqXs f xs ys
    | some false => some false
    | none => none
  | _, _ => some true
open Classical in
noncomputable def eqI (f : D → D → Option Bool) (x y : D) : Option Bool := if solid x = true ∧ solid y = true then (match f x y with
  | some b => if (x = y → b = true) then some b else none
  | none => none) else none
noncomputable def eqX (rows : List (Kl × DFn × List Tg)) (m : Mu) : Nat → D → D → Option Bool
  | 0, _, _ => none
  | n + 1, x, y => match insOf m x with
    | some (C, ns, _) => (match eqRow rows C ns, tagOf m y with
      | some (G, ts), some t => if t ∈ ts then pureB (G [x, y] m) m else none
      | _, _ => none)
    | none => match seqL m x, seqL m y with
      | some xs, some ys => if xs.length = ys.length then eqXs (eqI (eqX rows m n)) xs ys else some false
      | _, _ => match seqT x, seqT y with
        | some xs, some ys => (eqXs (eqI (eqX rows m n)) xs ys).map fun b => b && decide (xs.length = ys.length)
        | _, _ => match pyOf m x, pyOf m y with
          | some d, some e => if SeqAt.shaped d && SeqAt.shaped e then some (PyData.eqv d e) else none
          | _, _ => none
noncomputable def gEqX (neg : Bool) (rows : List (Kl × DFn × List Tg)) (n : Nat) : D2 := fun x y m => match eqX rows m n x y with
  | some b => .ok (.bl (neg ^^ b)) m
  | none => .stuck
section
variable {X : Cx} {k : Nat} {rows : List (Kl × DFn × List Tg)}
def At (X : Cx) (pins : List (Addr × Obj)) (σ : L2.St) (S : Wd) (m : Mu) (s : Shared) : Prop := ∃ T, Stp S T ∧ Sta X.K T m ∧ Inv X pins σ T.H s
theorem pureB_some {r : Res D} {m : Mu} {b : Bool} (h : pureB r m = some b) : r = .ok (.bl b) m := by
  unfold pureB at h
  split at h
  · rename_i b' m1
    split at h
    · rename_i e; cases h; rw [e]
    · cases h
  · cases h
theorem eqI_some {f : D → D → Option Bool} {x y : D} {b : Bool} (h : eqI f x y = some b) : solid x = true ∧ solid y = true ∧ f x y = some b ∧ (x = y → b = true) := by
  unfold eqI at h
  split at h
  · rename_i hs
    cases q : f x y with
    | none => rw [q] at h; cases h
    | some b' =>
      rw [q] at h
      dsimp only at h
      split at h
      · rename_i e; cases h; exact ⟨hs.1, hs.2, rfl, e⟩
      · cases h
  · cases h
def EqIt (X : Cx) (k : Nat) (f : Mu → D → D → Option Bool) : Prop := ∀ (A : Around) (pins : List (Addr × Obj)) (σ : L2.St) (S : Wd) (m : Mu) (x y : D) (vx vy : V) (u w : Value) (s : Shared) (b : Bool), Room k A → A.frames = X.A.frames → Sta X.K S m → Rep X.K S.i S.F x vx → Rep X.K S.i S.F y vy → Inv X pins σ S.H s → RelV vx u → RelV vy w →
  f m x y = some b → wpAny (model X.prog X.w) A (eqBool u w) (fun r s' => r = b ∧ At X pins σ S m s') X.xe s
def LpI (X : Cx) (pins : List (Addr × Obj)) (σ : L2.St) (S : Wd) (m : Mu) (f : D → D → Option Bool) (xs ys : List D) (b : Bool) (i : Nat) (s : Shared) : Prop := At X pins σ S m s ∧ eqXs f (xs.drop i) (ys.drop i) = some b
theorem lp_turn {f : Mu → D → D → Option Bool} (hf : EqIt X k f) {A : Around} (hr : Room k A.in1) (hA : A.frames = X.A.frames) {pins : List (Addr × Obj)} {σ : L2.St} {S T : Wd} {m : Mu} {xs ys : List D} {vs us : List V} {its its2 : List Value} {b : Bool} {s : Shared}
    (st : Stp S T) (sa : Sta X.K T m) (I : Inv X pins σ T.H s) (r : Reps X.K T.i T.F xs vs) (q : Reps X.K T.i T.F ys us) (rv : Vals vs its) (qv : Vals us its2)
    (i : Nat) (h1 : i < its.toArray.size) (h2 : i < its2.toArray.size) (he : eqXs (f m) (xs.drop i) (ys.drop i) = some b) :
    wpAny (model X.prog X.w) A.in1 (eqBool its.toArray[i] its2.toArray[i]) (fun r s' => if r then LpI X pins σ S m (f m) xs ys b (i + 1) s' else b = false ∧ At X pins σ S m s') X.xe s := by
  have g1 : i < its.length := by simpa using h1
  have g2 : i < its2.length := by simpa using h2
  have k1 : i < vs.length := by rw [rv.length]; exact g1
  have k2 : i < us.length := by rw [qv.length]; exact g2
  have j1 : i < xs.length := by rw [r.len]; exact k1
  have j2 : i < ys.length := by rw [q.len]; exact k2
  obtain ⟨u, hu, ru⟩ := rv.get (List.getElem?_eq_getElem k1)
  obtain ⟨w, hw, rw'⟩ := qv.get (List.getElem?_eq_getElem k2)
  obtain ⟨v1, e1, rx⟩ := r.get (List.getElem?_eq_getElem j1)
  obtain ⟨v2, e2, ry⟩ := q.get (List.getElem?_eq_getElem j2)
  rw [List.getElem?_eq_getElem k1] at e1
  rw [List.getElem?_eq_getElem k2] at e2
  cases e1
  cases e2
  rw [List.drop_eq_getElem_cons j1, List.drop_eq_getElem_cons j2] at he
  unfold eqXs at he
  have c1 : its.toArray[i] = u := by
    rw [List.getElem?_eq_getElem g1] at hu
    simpa using Option.some.inj hu
  have c2 : its2.toArray[i] = w := by
    rw [List.getElem?_eq_getElem g2] at hw
    simpa using Option.some.inj hw
  rw [c1, c2]
  cases hb : f m xs[i] ys[i] with
  | none => rw [hb] at he; cases he
  | some b' =>
    rw [hb] at he
    refine wpAny_mono (hf A.in1 pins σ T m _ _ _ _ u w s b' hr hA sa rx ry I ru rw' hb) (fun r s' z => ?_) fun _ _ x => x
    obtain ⟨rfl, U, st2, sa2, I2⟩ := z
    cases r with
    | true => exact ⟨⟨U, st.trans st2, sa2, I2⟩, he⟩
    | false => exact ⟨(Option.some.inj he).symm, U, st.trans st2, sa2, I2⟩
theorem eqXs_nil_l {f : D → D → Option Bool} {ys : List D} : eqXs f [] ys = some true := by unfold eqXs; rfl
theorem eqXs_nil_r {f : D → D → Option Bool} {xs : List D} : eqXs f xs [] = some true := by cases xs <;> (unfold eqXs; rfl)
theorem lp_end {f : D → D → Option Bool} {xs ys : List D} {b : Bool} {i : Nat} (h : min xs.length ys.length ≤ i) (he : eqXs f (xs.drop i) (ys.drop i) = some b) : b = true := by
  by_cases hx : xs.length ≤ i
  · rw [List.drop_of_length_le hx, eqXs_nil_l] at he; exact (Option.some.inj he).symm
  · rw [List.drop_of_length_le (by omega : ys.length ≤ i), eqXs_nil_r] at he; exact (Option.some.inj he).symm
theorem eqBool_refW {prog : Program} {w : World} {A : Around} {E : Value → Shared → Prop} {s : Shared} {l : Addr} {b : Value} {Q : Bool → Shared → Prop} (hne : Value.ref l ≠ b) (h : wpAny (model prog w) A (richCompare .Eq (.ref l) b) (fun v s' => ∃ r, v = .bool r ∧ Q r s') E s) : wpAny (model prog w) A (eqBool (.ref l) b) Q E s := by
  unfold eqBool
  refine wpAny_holding ?_
  refine wpAny_ite_split (fun hab => absurd (eq_of_beq hab) hne) (fun _ => ?_)
  refine wpAny_bind (wpAny_mono h (fun v s' hv => ?_) fun _ _ x => x)
  obtain ⟨r, rfl, q⟩ := hv
  exact wpAny_truthy_bool q
theorem rc_obj (hrows : ∀ r ∈ rows, EqOk X.prog X.w X.K X.mg X.base k r) {A : Around} (hr : Room k A) (hA : A.frames = X.A.frames) {pins : List (Addr × Obj)} {σ : L2.St} {S : Wd} {m : Mu} {x y : D} {vx vy : V} {u w : Value} {s : Shared} {b : Bool} (sa : Sta X.K S m) (rx : Rep X.K S.i S.F x vx) (ry : Rep X.K S.i S.F y vy) (I : Inv X pins σ S.H s) (hu : RelV vx u) (hw : RelV vy w)
    {C : Addr} {ns : List Str} {ds : List D} (ei : insOf m x = some (C, ns, ds)) {G : DFn} {ts : List Tg} {t : Tg} (eG : eqRow rows C ns = some (G, ts)) (eT : tagOf m y = some t) (ht : t ∈ ts) (h : G [x, y] m = .ok (.bl b) m) :
    ∃ a, u = .ref a ∧ wpAny (model X.prog X.w) A (richCompare .Eq u w) (fun r s' => r = .bool b ∧ At X pins σ S m s') X.xe s := by
  obtain ⟨c, ok, rfl, rfl⟩ := eqRow_ok (P := EqOk X.prog X.w X.K X.mg X.base k) hrows eG
  obtain ⟨a, dx, vs, rfl, h1, h2, h3⟩ := insOf_ok sa rx ei
  obtain ⟨f, fd, ps, dds, G0, hf1, hf2, hk, hf, hb, e⟩ := ok.mt.ex
  have e : G = padF ps.length dds G0 := e
  subst e
  obtain rfl : u = Value.ref a := hu
  refine ⟨a, rfl, ?_⟩
  obtain ⟨od1, J1⟩ := Inv.inst I h1
  obtain ⟨mm, F⟩ := I.fr
  refine PySem.W.cmp_K (op := .Eq) hr.units0 F I.ok.mod.kin J1 (tag_looks I sa ry hw eT) (ok.nf t ht) hf1 hf2 (thn (run_fnA (us := [.ref a, w]) (Q := fun v H => v = .bl b ∧ ∃ T, T.H = H ∧ Stp S T ∧ Sta X.K T m) hf hr hb hA I sa (.cons rx (.cons ry .nil)) (.cons rfl (.cons hw .nil)) ?_) fun v s1 hq => ?_)
  · rw [h]
    intro v T st sa1 rv
    cases rv
    exact ⟨rfl, T, rfl, st, sa1⟩
  · obtain ⟨y', H', I', r, rfl, T, rfl, st, sa1⟩ := hq
    cases r
    exact ⟨rfl, T, st, sa1, I'⟩
theorem at_refl {pins : List (Addr × Obj)} {σ : L2.St} {S : Wd} {m : Mu} {s : Shared} (sa : Sta X.K S m) (I : Inv X pins σ S.H s) : At X pins σ S m s := ⟨S, Stp.refl S, sa, I⟩
theorem rc_lists {f : Mu → D → D → Option Bool} (hf : EqIt X k f) {neg : Bool} {A : Around} (hr : Room (k + 1) A) (hA : A.frames = X.A.frames) {pins : List (Addr × Obj)} {σ : L2.St} {S : Wd} {m : Mu} {x y : D} {vx vy : V} {u w : Value} {s : Shared} {b : Bool} (sa : Sta X.K S m) (rx : Rep X.K S.i S.F x vx) (ry : Rep X.K S.i S.F y vy) (I : Inv X pins σ S.H s) (hu : RelV vx u) (hw : RelV vy w)
    {xs ys : List D} (ex : seqL m x = some xs) (ey : seqL m y = some ys) (h : (if xs.length = ys.length then eqXs (f m) xs ys else some false) = some b) :
    ∃ a c, u = .ref a ∧ w = .ref c ∧ wpAny (model X.prog X.w) A (richCompare (if neg then .NotEq else .Eq) u w) (fun r s' => r = .bool (neg ^^ b) ∧ At X pins σ S m s') X.xe s := by
  obtain ⟨a, vs, rfl, sx, rvs⟩ := seqL_ok sa rx ex
  obtain ⟨c, us, rfl, sy, rus⟩ := seqL_ok sa ry ey
  obtain rfl : u = Value.ref a := hu
  obtain rfl : w = Value.ref c := hw
  refine ⟨a, c, rfl, rfl, ?_⟩
  split at h
  · rename_i hl
    have LB : GQ.ListB X.prog X.w A X.xe a c xs.length (LpI X pins σ S m (f m) xs ys b) (fun s' => b = false ∧ At X pins σ S m s') := by
      rintro i s' ⟨⟨T, st, saT, IT⟩, he⟩
      obtain ⟨a', vs', e1, sx', rvs'⟩ := seqL_ok saT (rx.stp st) ex
      obtain ⟨c', us', e2, sy', rus'⟩ := seqL_ok saT (ry.stp st) ey
      cases e1
      cases e2
      obtain ⟨its, qv, ⟨⟨cl, dd, dt, sl⟩, n, ho, hc, hd, hdt⟩, _⟩ := IT.list sx'
      obtain ⟨its2, qu, ⟨⟨cl2, dd2, dt2, sl2⟩, n2, ho2, hc2, hd2, hdt2⟩, _⟩ := IT.list sy'
      simp only at hc hd hdt hc2 hd2 hdt2
      subst hc hdt hc2 hdt2
      have z1 : its.toArray.size = xs.length := by rw [List.size_toArray, ← qv.length, ← rvs'.len]
      have z2 : its2.toArray.size = xs.length := by rw [List.size_toArray, ← qu.length, ← rus'.len, hl]
      refine ⟨its.toArray, its2.toArray, n, n2, dd, dd2, sl, sl2, ho, ho2, z1, z2, fun h1 h2 => ?_⟩
      refine wpAny_mono (lp_turn hf hr.in1 hA st saT IT rvs' rus' qv qu i h1 h2 he) (fun r s2 z => ?_) fun _ _ x => x
      cases r with
      | true => exact z
      | false =>
        obtain ⟨rfl, U, st2, sa2, I2⟩ := (z : b = false ∧ At X pins σ S m s2)
        obtain ⟨a', vs2, e1, sx2, rvs2⟩ := seqL_ok sa2 (rx.stp st2) ex
        obtain ⟨c', us2, e2, sy2, rus2⟩ := seqL_ok sa2 (ry.stp st2) ey
        cases e1
        cases e2
        obtain ⟨its3, qv3, ⟨⟨cl, dd, dt, sl⟩, n, ho, hc, hd, hdt⟩, _⟩ := I2.list sx2
        obtain ⟨its4, qu4, ⟨⟨cl2, dd2, dt2, sl2⟩, n2, ho2, hc2, hd2, hdt2⟩, _⟩ := I2.list sy2
        simp only at hc hd hdt hc2 hd2 hdt2
        subst hc hdt hc2 hdt2
        exact ⟨⟨rfl, U, st2, sa2, I2⟩, its3.toArray, its4.toArray, n, n2, dd, dd2, sl, sl2, ho, ho2, by rw [List.size_toArray, ← qv3.length, ← rvs2.len], by rw [List.size_toArray, ← qu4.length, ← rus2.len, hl]⟩
    have h0 : LpI X pins σ S m (f m) xs ys b 0 s := ⟨at_refl sa I, by simpa using h⟩
    have fin : ∀ s', LpI X pins σ S m (f m) xs ys b xs.length s' → b = true ∧ At X pins σ S m s' := fun s' z => ⟨lp_end (by omega) z.2, z.1⟩
    cases neg with
    | false => exact GQ.rc_listB hr.units0 _ _ LB (fun s' z => by obtain ⟨rfl, q⟩ := fin s' z; exact ⟨rfl, q⟩) (fun s' z => by obtain ⟨rfl, q⟩ := z; exact ⟨rfl, q⟩) h0
    | true => exact GQ.rc_listNe hr.units0 _ _ LB (fun s' z => by obtain ⟨rfl, q⟩ := fin s' z; exact ⟨rfl, q⟩) (fun s' z => by obtain ⟨rfl, q⟩ := z; exact ⟨rfl, q⟩) h0
  · rename_i hl
    cases h
    obtain ⟨its, qv, ⟨⟨cl, dd, dt, sl⟩, n, ho, hc, hd, hdt⟩, _⟩ := I.list sx
    obtain ⟨its2, qu, ⟨⟨cl2, dd2, dt2, sl2⟩, n2, ho2, hc2, hd2, hdt2⟩, _⟩ := I.list sy
    simp only at hc hd hdt hc2 hd2 hdt2
    subst hc hdt hc2 hdt2
    have hsz : its.toArray.size ≠ its2.toArray.size := by rw [List.size_toArray, List.size_toArray, ← qv.length, ← rvs.len, ← qu.length, ← rus.len]; exact hl
    cases neg with
    | false => exact GQ.rc_listL hr.units0 ho ho2 hsz ⟨rfl, at_refl sa I⟩
    | true => exact GQ.rc_listLNe hr.units0 ho ho2 hsz ⟨rfl, at_refl sa I⟩
theorem rc_tups {f : Mu → D → D → Option Bool} (hf : EqIt X k f) {neg : Bool} {A : Around} (hr : Room (k + 1) A) (hA : A.frames = X.A.frames) {pins : List (Addr × Obj)} {σ : L2.St} {S : Wd} {m : Mu} {x y : D} {vx vy : V} {u w : Value} {s : Shared} {b : Bool} (sa : Sta X.K S m) (rx : Rep X.K S.i S.F x vx) (ry : Rep X.K S.i S.F y vy) (I : Inv X pins σ S.H s) (hu : RelV vx u) (hw : RelV vy w)
    {xs ys : List D} (ex : seqT x = some xs) (ey : seqT y = some ys) (h : (eqXs (f m) xs ys).map (fun b => b && decide (xs.length = ys.length)) = some b) :
    ∃ a c, u = .ref a ∧ w = .ref c ∧ wpAny (model X.prog X.w) A (richCompare (if neg then .NotEq else .Eq) u w) (fun r s' => r = .bool (neg ^^ b) ∧ At X pins σ S m s') X.xe s := by
  obtain ⟨a, vs, rfl, sx, rvs⟩ := seqT_ok sa rx ex
  obtain ⟨c, us, rfl, sy, rus⟩ := seqT_ok sa ry ey
  obtain rfl : u = Value.ref a := hu
  obtain rfl : w = Value.ref c := hw
  refine ⟨a, c, rfl, rfl, ?_⟩
  cases he : eqXs (f m) xs ys with
  | none => rw [he] at h; cases h
  | some b0 =>
    rw [he] at h
    have h : (b0 && decide (xs.length = ys.length)) = b := Option.some.inj h
    obtain ⟨its, qv, hT, _⟩ := I.tuple sx
    obtain ⟨its2, qu, hT2, _⟩ := I.tuple sy
    have z1 : its.toArray.size = xs.length := by rw [List.size_toArray, ← qv.length, ← rvs.len]
    have z2 : its2.toArray.size = ys.length := by rw [List.size_toArray, ← qu.length, ← rus.len]
    have turn : ∀ i (h1 : i < its.toArray.size) (h2 : i < its2.toArray.size) s', LpI X pins σ S m (f m) xs ys b0 i s' → wpAny (model X.prog X.w) A.in1 (eqBool its.toArray[i] its2.toArray[i]) (fun r s' => if r then LpI X pins σ S m (f m) xs ys b0 (i + 1) s' else b0 = false ∧ At X pins σ S m s') X.xe s' := by
      rintro i h1 h2 s' ⟨⟨T, st, saT, IT⟩, he'⟩
      exact lp_turn hf hr.in1 hA st saT IT (rvs.stp st) (rus.stp st) qv qu i h1 h2 he'
    have h0 : LpI X pins σ S m (f m) xs ys b0 0 s := ⟨at_refl sa I, by simpa using he⟩
    have fin : ∀ s', LpI X pins σ S m (f m) xs ys b0 (min its.toArray.size its2.toArray.size) s' → b0 = true ∧ At X pins σ S m s' := fun s' z => ⟨lp_end (by omega) z.2, z.1⟩
    have hsz : (its.toArray.size == its2.toArray.size) = decide (xs.length = ys.length) := by rw [z1, z2]; rfl
    have hszn : (its.toArray.size != its2.toArray.size) = !decide (xs.length = ys.length) := by rw [z1, z2]; rfl
    cases neg with
    | false => exact GQ.rc_tupB hr.units0 _ (fun s' => b0 = false ∧ At X pins σ S m s') hT hT2 turn (fun s' z => by obtain ⟨rfl, q⟩ := fin s' z; exact ⟨by rw [hsz, ← h]; simp, q⟩) (fun s' z => by obtain ⟨rfl, q⟩ := z; exact ⟨by rw [← h]; simp, q⟩) h0
    | true => exact GQ.rc_tupNe hr.units0 _ (fun s' => b0 = false ∧ At X pins σ S m s') hT hT2 turn (fun s' z => by obtain ⟨rfl, q⟩ := fin s' z; exact ⟨by rw [hszn, ← h]; simp, q⟩) (fun s' z => by obtain ⟨rfl, q⟩ := z; exact ⟨by rw [← h]; simp, q⟩) h0
theorem eqIt_X (hrows : ∀ r ∈ rows, EqOk X.prog X.w X.K X.mg X.base k r) : ∀ n : Nat, EqIt X (k + n) (fun m => eqI (eqX rows m n))
  | 0 => by
    intro A pins σ S m x y vx vy u w s b hr hA sa rx ry I hu hw h
    obtain ⟨_, _, h, _⟩ := eqI_some h
    unfold eqX at h; cases h
  | n + 1 => by
    have ih := eqIt_X hrows n
    intro A pins σ S m x y vx vy u w s b hr hA sa rx ry I hu hw h
    obtain ⟨s1, s2, h, hxy⟩ := eqI_some h
    have same : ∀ a, u = .ref a → w = .ref a → b = true := fun a e1 e2 => by
      subst e1; subst e2
      have := relV_inj hu hw
      subst this
      exact hxy (rep_inj I sa x s1 s2 rx ry)
    have done : ∀ a, u = .ref a → wpAny (model X.prog X.w) A (richCompare .Eq u w) (fun r s' => r = .bool b ∧ At X pins σ S m s') X.xe s → wpAny (model X.prog X.w) A (eqBool u w) (fun r s' => r = b ∧ At X pins σ S m s') X.xe s := fun a e hh => by
      subst e
      by_cases hab : Value.ref a = w
      · subst hab
        have := same a rfl rfl
        subst this
        exact SeqAt.EqAt.same (A := A) (s := s) (.ref a) X.prog X.w X.xe _ ⟨rfl, at_refl sa I⟩
      · exact eqBool_refW hab (wpAny_mono hh (fun r s' z => ⟨b, z.1, rfl, z.2⟩) fun _ _ x => x)
    unfold eqX at h
    split at h
    · rename_i C ns ds ei
      split at h
      · rename_i G ts t eG eT
        split at h
        · rename_i ht
          obtain ⟨a, e, q⟩ := rc_obj hrows (hr.mono (by omega)) hA sa rx ry I hu hw ei eG eT ht (pureB_some h)
          exact done a e q
        · cases h
      · cases h
    · split at h
      · rename_i xs ys ex ey
        obtain ⟨a, c, e1, e2, q⟩ := rc_lists (neg := false) ih hr hA sa rx ry I hu hw ex ey h
        exact done a e1 (wpAny_mono q (fun r s' z => ⟨by rw [z.1, Bool.false_xor], z.2⟩) fun _ _ x => x)
      · split at h
        · rename_i xs ys ex ey
          obtain ⟨a, c, e1, e2, q⟩ := rc_tups (neg := false) ih hr hA sa rx ry I hu hw ex ey h
          exact done a e1 (wpAny_mono q (fun r s' z => ⟨by rw [z.1, Bool.false_xor], z.2⟩) fun _ _ x => x)
        · split at h
          · rename_i d e e1 e2
            split at h
            · rename_i hs
              obtain ⟨h1, h2⟩ := Bool.and_eq_true_iff.mp hs
              cases h
              obtain ⟨as, r1⟩ := Dp.reads I d vx u (pyOf_ok sa rx e1) hu
              obtain ⟨bs, r2⟩ := Dp.reads I e vy w (pyOf_ok sa ry e2) hw
              exact SeqAt.eqAt_reads d e A s u w as bs r1 r2 (SeqAt.canLay_of_shaped h1) (SeqAt.canLay_of_shaped h2) (SeqAt.room_of_shaped h1 hr.units) X.prog X.w X.xe _ ⟨rfl, at_refl sa I⟩
            · cases h
          · cases h
theorem od_eqX (hrows : ∀ r ∈ rows, EqOk X.prog X.w X.K X.mg X.base k r) (n : Nat) (hr : Room (k + n) X.A) : OD X (compareOp .Eq) (gEqX false rows n) := by
  intro pins s σ S m x y vx vy u w Q sa rx ry I hu hw p
  unfold gEqX at p
  split at p
  · rename_i b hb
    have fin : wpAny (model X.prog X.w) X.A (richCompare .Eq u w) (fun r s' => r = .bool b ∧ At X pins σ S m s') X.xe s → wpAny (model X.prog X.w) X.A (compareOp .Eq u w) (EP X pins σ Q) X.xe s := fun z => by
      refine wpAny_mono z (fun r s' q => ?_) fun _ _ x => x
      obtain ⟨rfl, T, st, sa1, I1⟩ := q
      rw [Bool.false_xor] at p
      exact ⟨.bl b, T.H, I1, rfl, Post.ok p st sa1 (.bl b)⟩
    cases n with
    | zero => unfold eqX at hb; cases hb
    | succ n =>
      have ih := eqIt_X hrows n
      unfold eqX at hb
      split at hb
      · rename_i C ns ds ei
        split at hb
        · rename_i G ts t eG eT
          split at hb
          · rename_i ht
            obtain ⟨a, e, q⟩ := rc_obj hrows (hr.mono (by omega)) rfl sa rx ry I hu hw ei eG eT ht (pureB_some hb)
            exact fin q
          · cases hb
        · cases hb
      · split at hb
        · rename_i xs ys ex ey
          obtain ⟨a, c, e1, e2, q⟩ := rc_lists (neg := false) ih hr rfl sa rx ry I hu hw ex ey hb
          exact fin (wpAny_mono q (fun r s' z => ⟨by rw [z.1, Bool.false_xor], z.2⟩) fun _ _ x => x)
        · split at hb
          · rename_i xs ys ex ey
            obtain ⟨a, c, e1, e2, q⟩ := rc_tups (neg := false) ih hr rfl sa rx ry I hu hw ex ey hb
            exact fin (wpAny_mono q (fun r s' z => ⟨by rw [z.1, Bool.false_xor], z.2⟩) fun _ _ x => x)
          · split at hb
            · rename_i d e e1 e2
              split at hb
              · rename_i hs
                obtain ⟨h1, h2⟩ := Bool.and_eq_true_iff.mp hs
                cases hb
                obtain ⟨as, r1⟩ := Dp.reads I d vx u (pyOf_ok sa rx e1) hu
                obtain ⟨bs, r2⟩ := Dp.reads I e vy w (pyOf_ok sa ry e2) hw
                exact fin (SeqAt.compareEq_shaped r1 r2 h1 h2 hr.units ⟨rfl, at_refl sa I⟩)
              · cases hb
            · cases hb
  · exact p.elim
end
end DL
namespace DL
open PySem PySem.Spec L2
variable [LamTab]
section
variable {rows : List (Kl × DFn × List Tg)} {m : Mu} {n : Nat}
@[simp] theorem pureB_ok (b : Bool) (m : Mu) : pureB (.ok (.bl b) m) m = some b := by simp [pureB]
end
end DL

namespace DL
open PySem PySem.Spec PyProof.Rows L2
variable [LamTab]
section
variable {X : Cx} {k : Nat}
end
theorem pda_c {X : Cx} {a : Expr} {es : List Expr} {ta : DE} {t : DA} (ha : PDE X a ta) (hr : PDA X es t) (hs : isStar a = false := by rfl) : PDA X (a :: es) (dCons ta t) := pda_cons ha hr (se_cons _ _ _ hs)
end DL

namespace DL
open PySem PySem.Spec PyProof.Rows L2
variable [LamTab]
def dLc1 (n : Nat) (g : DG) (c : DT) (b : DE) (e : En) : List D → Mu → Res Unit
  | [], m => .ok () m
  | d :: ds, m => match g d e with
    | none => .stuck
    | some e1 => match c e1 m with
      | .ok true m1 => match b e1 m1 with
        | .ok x m2 => match m2[n]? with
          | some (.lst acc) => if acc.length < sizeLine then dLc1 n g c b e ds (m2.set n (.lst (acc ++ [x]))) else .stuck
          | _ => .stuck
        | _ => .stuck
      | .ok false m1 => dLc1 n g c b e ds m1
      | _ => .stuck
def dLc2 (n : Nat) (g : DG) (c : DT) (t1 : DA) (g1 : DG) (c1 : DT) (b : DE) (vs1 : List Nat) (e : En) : List D → Mu → Res Unit
  | [], m => .ok () m
  | d :: ds, m => match g d e with
    | none => .stuck
    | some e1 => match c e1 m with
      | .ok true m1 => match t1 e1 m1 with
        | .ok ds1 m2 => (dLc1 n g1 c1 b (wipeE e1 vs1) ds1 m2).bind fun _ m3 => dLc2 n g c t1 g1 c1 b vs1 e ds m3
        | _ => .stuck
      | .ok false m1 => dLc2 n g c t1 g1 c1 b vs1 e ds m1
      | _ => .stuck
def dComp2 (t : DA) (g : DG) (c : DT) (t1 : DA) (g1 : DG) (c1 : DT) (b : DE) (own vs1 : List Nat) : DE := fun e m =>
  (t e m).bind fun ds m1 => (dLc2 m1.length g c t1 g1 c1 b vs1 (wipeE e own) ds (m1 ++ [.lst []])).bind fun _ m2 => .ok (.loc m1.length) m2
@[simp ↓] theorem dComp2_ap (t : DA) (g : DG) (c : DT) (t1 : DA) (g1 : DG) (c1 : DT) (b : DE) (own vs1 : List Nat) (e : En) (m : Mu) : dComp2 t g c t1 g1 c1 b own vs1 e m =
  (t e m).bind fun ds m1 => (dLc2 m1.length g c t1 g1 c1 b vs1 (wipeE e own) ds (m1 ++ [.lst []])).bind fun _ m2 => .ok (.loc m1.length) m2 := rfl
section
variable {X : Cx} {elt tg iter tg1 iter1 : Expr} {ifs ifs1 : List Expr} {scope : Scope} {own : List (Str × Nat)} {vs1 : List Nat} {pos spos : Pos} {t t1 : DA} {g g1 : DG} {c c1 : DT} {b : DE} {sl sl1 : List Nat}
end
end DL

namespace DL
open PySem PySem.Spec PyProof.Rows L2
variable [LamTab]
section
variable {X : Cx} {a b c e o tg : Expr} {es : List Expr} {ta tb tc to te u : DE} {t : DA} {pos p apos : Pos} {k : Nat}
theorem pd_stuckE : PDE X a (fun _ _ => .stuck) := fun S r m σ Q sa re p => p.elim
def orE (t u : DE) : DE := fun e m => match t e m with
  | .stuck => u e m
  | r => r
def orA (t u : DA) : DA := fun e m => match t e m with
  | .stuck => u e m
  | r => r
def orS (t u : DS) : DS := fun e m => match t e m with
  | .stuck => u e m
  | r => r
@[simp ↓] theorem orE_ap (t u : DE) (e : En) (m : Mu) : orE t u e m = match t e m with
  | .stuck => u e m
  | r => r := rfl
@[simp ↓] theorem orA_ap (t u : DA) (e : En) (m : Mu) : orA t u e m = match t e m with
  | .stuck => u e m
  | r => r := rfl
@[simp ↓] theorem orS_ap (t u : DS) (e : En) (m : Mu) : orS t u e m = match t e m with
  | .stuck => u e m
  | r => r := rfl
end
end DL

namespace DL
open PySem PySem.Spec PyProof.Rows L2
variable [LamTab]
section
variable {X : Cx} {a b c e o tg : Expr} {es : List Expr} {ta tb tc to te u : DE} {t : DA} {pos p apos cpos : Pos} {k : Nat}
theorem Reps.reverse {K : PySem.W.Frag} {ι : List Addr} {F : Hp} {ds : List D} {vs : List V} (r : Reps K ι F ds vs) : Reps K ι F ds.reverse vs.reverse := by
  match r with
  | .nil => exact .nil
  | .cons h r' => rw [List.reverse_cons, List.reverse_cons]; exact (Reps.reverse r').append (.cons h .nil)
def dRev (t : DE) : DE := fun e m => (t e m).bind fun d m1 => match seqL m1 d with
  | some ds => .ok (.lst ds.reverse) m1
  | none => .stuck
@[simp ↓] theorem dRev_ap (t : DE) (e : En) (m : Mu) : dRev t e m = (t e m).bind fun d m1 => match seqL m1 d with
  | some ds => .ok (.lst ds.reverse) m1
  | none => .stuck := rfl
def dBmL (f : D → List D → Mu → Res D) (to : DE) (t : DA) : DE := fun e m => (to e m).bind fun o m1 => match seqL m1 o with
  | some _ => (t e m1).bind fun ds m2 => f o ds m2
  | none => .stuck
@[simp ↓] theorem dBmL_ap (f : D → List D → Mu → Res D) (to : DE) (t : DA) (e : En) (m : Mu) : dBmL f to t e m = (to e m).bind fun o m1 => match seqL m1 o with
  | some _ => (t e m1).bind fun ds m2 => f o ds m2
  | none => .stuck := rfl
def dLstRep (t : DA) (tb : DE) : DE := fun e m => (dLst t e m).bind fun x m1 => (tb e m1).bind fun d m2 => match x, d with
  | .lst ds, .int k => if 0 ≤ k ∧ k < 2 ^ 62 ∧ ds.length * k.toNat ≤ sizeLine then .ok (.lst (List.replicate k.toNat ds).flatten) m2 else .stuck
  | _, _ => .stuck
@[simp ↓] theorem dLstRep_ap (t : DA) (tb : DE) (e : En) (m : Mu) : dLstRep t tb e m = (dLst t e m).bind fun x m1 => (tb e m1).bind fun d m2 => match x, d with
  | .lst ds, .int k => if 0 ≤ k ∧ k < 2 ^ 62 ∧ ds.length * k.toNat ≤ sizeLine then .ok (.lst (List.replicate k.toNat ds).flatten) m2 else .stuck
  | _, _ => .stuck := rfl
end
end DL

namespace DL
open PySem PySem.Spec PySem.Calls PyProof.Rows L2
variable [LamTab]
section
variable {prog : Program} {w : World} {A : Around} {E : Value → Shared → Prop} {s : Shared} {x : Addr}
end
section
variable {X : Cx} {a b c e o tg : Expr} {es : List Expr} {ta tb tc te to u : DE} {t : DA} {pos p apos cpos : Pos} {k : Nat} {x mn : Str} {G : DFn}
def dStar (te : DE) (t : DA) : DA := fun e m => (te e m).bind fun d m1 => match seqA m1 d with
  | some ds => (t e m1).bind fun es m2 => .ok (ds ++ es) m2
  | none => .stuck
@[simp ↓] theorem dStar_ap (te : DE) (t : DA) (e : En) (m : Mu) : dStar te t e m = (te e m).bind fun d m1 => match seqA m1 d with
  | some ds => (t e m1).bind fun es m2 => .ok (ds ++ es) m2
  | none => .stuck := rfl
end
def spS (K : PySem.W.Frag) (F : DFn) : Sp := fun vs H Q E => ∃ (S : Wd) (m : Mu) (ds : List D), S.H = H ∧ Sta K S m ∧ Reps K S.i S.F ds vs ∧ PostD K S (F ds m) Q E
section
variable (P : Program) (w : World) (K : PySem.W.Frag) (mg : Str → Option Value) (base : Heap)
abbrev FnS (k : Nat) (f : Addr) (G : DFn) : Prop := FnR P w K mg base (L2.CX P w) k f (spS K G)
end
section
variable {P : Program} {w : World} {K : PySem.W.Frag} {mg : Str → Option Value} {base : Heap}
end
section
variable {X : Cx} {a b c e o tg : Expr} {es : List Expr} {ta tb tc te to u : DE} {t : DA} {pos p p2 apos cpos : Pos} {k : Nat} {x mn : Str} {G : DFn} {f : Addr}
end
end DL

namespace DL
open PySem PySem.Spec PySem.Calls PyProof.Rows L2
variable [LamTab]
section
variable {P : Program} {w : World} {K : PySem.W.Frag} {mg : Str → Option Value} {base : Heap}
theorem FnD.star {k : Nat} {f : Addr} {fd : FuncData} {ps : List Str} {G : DFn} {dds : List D} (F : FnD P w K mg base k f fd ps G) (hb : Bd K fd ps dds) : FnS P w K mg base k f (padF ps.length dds G) := by
  obtain ⟨ds, dvs, hb, hd, hD⟩ := hb.ex
  refine (F.raw hb hd).imp fun vs H Q E h => ?_
  obtain ⟨S, m, das, rfl, sa, r, p⟩ := h
  unfold padF at p
  split at p
  · rename_i hl
    have r1 : Reps K S.i S.F (das ++ dds) (vs ++ dvs) := r.append (hD _ _)
    exact ⟨by rw [← r1.len]; exact hl, S, m, _, rfl, sa, r1, p⟩
  · exact p.elim
end
section
variable (P : Program) (w : World) (K : PySem.W.Frag) (mg : Str → Option Value) (base : Heap)
structure CMt (k : Nat) (x mn : Str) (G : DFn) : Prop where
  ex : ∃ (C pp g : Addr) (G0 : DFn), mg x = some (.ref C) ∧ ClX.CRead K C (.type "type") ∧ ClX.CMet K C (.type "type") mn pp g ∧ FnS P w K mg base k g G0 ∧ G = fun ds => G0 (.val (.ref C) :: ds)
end
section
variable {X : Cx} {a b c e o tg : Expr} {es : List Expr} {ta tb tc te to u : DE} {t : DA} {pos p p2 apos cpos : Pos} {k : Nat} {x mn : Str} {G : DFn} {f C : Addr}
theorem run_cmS {pins : List (Addr × Obj)} {σ : L2.St} {S : Wd} {m : Mu} {s : Shared} {Q : VK} {us : List Value} {vs : List V} {das : List D} {q g : Addr} (F : FnS X.prog X.w X.K X.mg X.base k g G) (hr : Room k X.A)
    (I : Inv X ((q, PySem.W.methodObj (.ref g) (.ref C)) :: pins) σ S.H s) (sa : Sta X.K S m) (r : Reps X.K S.i S.F das vs) (rv : Vals vs us) (h : PostD X.K S (G (.val (.ref C) :: das) m) Q (fun c d H => Fly X c d σ H)) :
    wpAny (model X.prog X.w) X.A (call (.ref q) us) (EP X pins σ Q) X.xe s := by
  have z : wpAny (model X.prog X.w) X.A (call (.ref q) us) (EP X ((q, PySem.W.methodObj (.ref g) (.ref C)) :: pins) σ Q) X.xe s := by
    refine wpAny_call (PySem.W.method_call (ClX.pin_at I) (codeAny_mono (F X.A X.stack s S.H (.ref C :: us) (.ref C :: vs) Q (fun c d H => Fly X c d σ H) hr I.env0 (.cons rfl rv) ⟨S, m, _, rfl, sa, .cons (.val _) r, h⟩) fun r s' hq => ?_))
    cases r with
    | error e =>
      obtain ⟨a, B, sI, pins', σ', H', cls, d, e1, I', nb, up, sky, na, os, ag, e2, fl⟩ := XE.of_call I (W := fun c d σ' H => σ' = σ ∧ Fly X c d σ H) (fun cls d H' h => ⟨rfl, h⟩) hq
      exact fl e s' ⟨a, B, sI, pins', σ', H', cls, d, e1, I', nb, up, sky, na, os, ag, rfl, rfl, e2, rfl⟩
    | ok fl =>
      cases fl with
      | ret u => exact I.after hq
      | next => exact False.elim hq
      | brk => exact False.elim hq
      | cont => exact False.elim hq
  exact thn z fun _ _ y => ClX.unpinE y
theorem pd_cmeth {pl : Sem Bool} (F : CMt X.prog X.w X.K X.mg X.base k x mn G) (hr : Room k X.A) (ha : PDA X (e :: es) t)
    (hg : Gl X x := by rfl) (hdb : (x == ("__debug__" : Str)) = false := by decide)
    (hst : starEach (e :: es) X.env = (false, eval e X.env) :: starEach es X.env := by exact se_cons _ _ _ rfl) (hpl : (backTo pos (starEach es X.env)).any (·.1) = false := by exact se_any _ _ _ rfl)
    (ht : eval (.Call (.Attribute (.Name x p2) mn apos) (e :: es) [] pos) X.env = (do
      let ov ← eval (.Name x p2) X.env
      standAt apos.atName
      let (f, first) ← holding [ov] (getMethod ov mn pl)
      callWith pos f first (backTo pos (starEach (e :: es) X.env)) (backToKw pos (keywordEach [] X.env))) := by rfl) :
    PDE X (.Call (.Attribute (.Name x p2) mn apos) (e :: es) [] pos) (dFun G t) := by
  obtain ⟨C, pp, g, G0, hm, r1, c1, hf, rfl⟩ := F.ex
  intro S r m σ Q sa re q pins s I
  refine PySem.W.methodCall_KW (pl := pl) (ld_glob I hg hm ?_ hdb) ht
  refine ClX.getmethcm_ok I r1 c1 fun s2 I2 => ?_
  refine ClX.callwith_cm I2 (ClX.base_none I (Nat.le_refl _)) c1.fi (thn (ha.run sa re q I2 pos) ?_) hst hpl
  rintro us s3 ⟨xs, das, m2, U, st2, sa2, rds, rv, I3, q2⟩
  exact ⟨⟨ClX.pin_at I3, I3.kIn⟩, run_cmS hf hr I3 sa2 rds rv q2⟩
noncomputable def dMakeV (i : Nat) (C : Addr) (G : DFn) (t : DA) : DE := fun e m => match e[i]? with
  | some (some (.val (.ref a))) => if a = C then dMake C G t e m else .stuck
  | _ => .stuck
@[simp ↓] theorem dMakeV_ap (i : Nat) (C : Addr) (G : DFn) (t : DA) (e : En) (m : Mu) : dMakeV i C G t e m = match e[i]? with
  | some (some (.val (.ref a))) => if a = C then dMake C G t e m else .stuck
  | _ => .stuck := rfl
theorem pd_makeV {i : Nat} {y : Str} (F : KT X.prog X.w X.K X.mg X.base k y C G) (hr : Room (k + 1) X.A) (ha : PDA X (e :: es) t)
    (hN : X.N[i]? = some x := by rfl) (hv : Vis X.env.scope x := by first | exact Or.inl rfl | exact Or.inr (Or.inl rfl) | exact Or.inr (Or.inr rfl)) (hd : (x == ("__debug__" : Str)) = false := by decide)
    (hcd : (x == ("__classdict__" : Str)) = false := by decide)
    (ht : eval (.Call (.Name x p) (e :: es) [] pos) X.env = (do callWith pos (← eval (.Name x p) X.env) [] (backTo pos (starEach (e :: es) X.env)) (backToKw pos (keywordEach [] X.env))) := by rfl)
    (he : starEach (e :: es) X.env = (false, eval e X.env) :: starEach es X.env := by exact se_cons _ _ _ rfl) (hpl : (backTo pos (starEach es X.env)).any (·.1) = false := by exact se_any _ _ _ rfl) :
    PDE X (.Call (.Name x p) (e :: es) [] pos) (dMakeV i C G t) := by
  intro S r m σ Q sa re q pins s I
  unfold dMakeV at q
  split at q
  · rename_i a e1
    split at q
    · rename_i hC
      subst hC
      obtain ⟨v, h1, h2⟩ := re.2 i _ e1
      cases h2
      refine Call_ (thn ((pe_var (i := i) hN hv hd hcd).run pins s σ S.H (fun v H => v = .ref a ∧ H = S.H) I ⟨_, h1, rfl, rfl⟩) fun u s1 ⟨y, H1, I1, ry, ey, eH⟩ => ?_) ht
      subst ey; subst eH
      obtain rfl : u = Value.ref a := ry
      obtain ⟨_, _, _, _, _, M, _⟩ := F.ex
      refine PySem.W.callWith_K (h₀ := X.base) I1.ok.mod.kin M.kp (thn (ha.run sa re q I1 pos) ?_) he hpl
      rintro us s1 ⟨xs, ds, m1, T, st, sa1, rds, rv, I1, q1⟩
      exact ⟨I1.kIn, run_mk F hr I1 sa1 rds rv q1⟩
    · exact q.elim
  · exact q.elim
end
end DL

namespace DL
open PySem PySem.Spec PyProof.Rows L2
variable [LamTab]
abbrev GdL := List D × (Mu → Prop)
abbrev DAG := En → Mu → Res GdL
def PostIG (K : PySem.W.Frag) (S : Wd) (r : Res GdL) (R : It → Hp → Prop) (W : XK) : Prop := match r with
  | .stuck => False
  | .ok x m => ∀ J T, Stp S T → Sta K T m → ItOkG K x.2 T J x.1 → R J T.H
  | .exc C fs m => ∀ dd vs T, Stp S T → S.H dd = none → Sta K T m → T.H dd = some (.xd vs) → RepF K T.i T.F fs vs → W (.ref C) (some dd) T.H
theorem PostIG.bindI {α β : Type} {R' : Wd → α → β → Prop} {K : PySem.W.Frag} {S : Wd} {r : Res α} {f : α → Mu → Res GdL} {Q : It → Hp → Prop} {Q' : β → Hp → Prop} {W : XK} (h : PostIG K S (r.bind f) Q W)
    (g : ∀ a m v T, Stp S T → Sta K T m → R' T a v → PostIG K T (f a m) Q W → Q' v T.H) : Post R' K S r Q' W := by
  cases r with
  | stuck => exact h
  | ok a m =>
    intro v U s1 s2 s3
    refine g a m v U s1 s2 s3 ?_
    have h : PostIG K S (f a m) Q W := h
    cases q : f a m with
    | stuck => rw [q] at h; exact h
    | ok ds m1 => rw [q] at h; exact fun J T st => h J T (s1.trans st)
    | exc C fs m1 => rw [q] at h; exact fun dd vs T st hn => h dd vs T (s1.trans st) (s1.old dd hn)
  | exc C fs m => exact h
def liG (t : DA) : DAG := fun e m => (t e m).bind fun ds m1 => .ok (ds, fun _ => True) m1
@[simp ↓] theorem liG_ap (t : DA) (e : En) (m : Mu) : liG t e m = (t e m).bind fun ds m1 => .ok (ds, fun _ => True) m1 := rfl
def orG (t u : DAG) : DAG := fun e m => match t e m with
  | .stuck => u e m
  | r => r
@[simp ↓] theorem orG_ap (t u : DAG) (e : En) (m : Mu) : orG t u e m = match t e m with
  | .stuck => u e m
  | r => r := rfl
def seqGL (m : Mu) (d : D) : Option GdL := match d with
  | .lst ds => some (ds, fun _ => True)
  | .loc n => match m[n]? with
    | some (.lst ds) => some (ds, fun m => m[n]? = some (.lst ds))
    | _ => none
  | _ => none
@[simp] theorem seqGL_lst (m : Mu) (ds : List D) : seqGL m (.lst ds) = some (ds, fun _ => True) := rfl
@[simp] theorem seqGL_loc (m : Mu) (n : Nat) : seqGL m (.loc n) = match m[n]? with
  | some (.lst ds) => some (ds, fun m => m[n]? = some (.lst ds))
  | _ => none := rfl
def dItGL (ta : DE) : DAG := fun e m => (ta e m).bind fun d m1 => match seqGL m1 d with
  | some x => .ok x m1
  | none => .stuck
@[simp ↓] theorem dItGL_ap (ta : DE) (e : En) (m : Mu) : dItGL ta e m = (ta e m).bind fun d m1 => match seqGL m1 d with
  | some x => .ok x m1
  | none => .stuck := rfl
def dItGE (t : DA) : DAG := fun e m => (t e m).bind fun ds m1 => match ds with
  | [d] => match seqGL m1 d with
    | some x => .ok ((List.range x.1.length).zipWith (fun k d => .tup [.int (k : Nat), d]) x.1, x.2) m1
    | none => .stuck
  | _ => .stuck
@[simp ↓] theorem dItGE_ap (t : DA) (e : En) (m : Mu) : dItGE t e m = (t e m).bind fun ds m1 => match ds with
  | [d] => match seqGL m1 d with
    | some x => .ok ((List.range x.1.length).zipWith (fun k d => .tup [.int (k : Nat), d]) x.1, x.2) m1
    | none => .stuck
  | _ => .stuck := rfl
def dItGZ (t : DA) : DAG := fun e m => (t e m).bind fun ds m1 => match ds with
  | [a, b] => match seqGL m1 a, seqGL m1 b with
    | some x, some y => .ok (x.1.zipWith (fun x y => .tup [x, y]) y.1, fun m => x.2 m ∧ y.2 m) m1
    | _, _ => .stuck
  | _ => .stuck
@[simp ↓] theorem dItGZ_ap (t : DA) (e : En) (m : Mu) : dItGZ t e m = (t e m).bind fun ds m1 => match ds with
  | [a, b] => match seqGL m1 a, seqGL m1 b with
    | some x, some y => .ok (x.1.zipWith (fun x y => .tup [x, y]) y.1, fun m => x.2 m ∧ y.2 m) m1
    | _, _ => .stuck
  | _ => .stuck := rfl
section
variable {K : PySem.W.Frag} {T : Wd} {m : Mu} {d : D} {v : V} {x : GdL}
end
section
variable {X : Cx} {a b tg iter : Expr} {pos p tpos : Pos} {t u : DA} {ta : DE} {tG uG : DAG}
end
noncomputable def dCompX (fin : List D → Mu → Res D) (t : DAG) (g : DG) (c : DT) (b : DE) (own : List Nat) : DE := fun e m => (t e m).bind fun x m1 => (dCompG x.2 g c b (wipeE e own) x.1 m1 []).bind fin
@[simp ↓] theorem dCompX_ap (fin : List D → Mu → Res D) (t : DAG) (g : DG) (c : DT) (b : DE) (own : List Nat) (e : En) (m : Mu) : dCompX fin t g c b own e m = (t e m).bind fun x m1 => (dCompG x.2 g c b (wipeE e own) x.1 m1 []).bind fin := rfl
open Classical in
noncomputable def dLoopG (g : DG) (b : DS) (gd : Mu → Prop) : List D → En → Mu → RS
  | [], e, m => if gd m then .nx e m else .stuck
  | d :: ds, e, m => if gd m then (match g d e with
    | none => .stuck
    | some e1 => match b e1 m with
      | .nx e2 m2 => dLoopG g b gd ds e2 m2
      | .ct e2 m2 => dLoopG g b gd ds e2 m2
      | .bk e2 m2 => .nx e2 m2
      | .rt d m2 => .rt d m2
      | .exc C fs e2 m2 => .exc C fs e2 m2
      | .stuck => .stuck) else .stuck
noncomputable def dForX (t : DAG) (g : DG) (b : DS) : DS := fun e m => match t e m with
  | .ok x m1 => dLoopG g b x.2 x.1 e m1
  | .exc C fs m1 => .exc C fs e m1
  | .stuck => .stuck
@[simp ↓] theorem dForX_ap (t : DAG) (g : DG) (b : DS) (e : En) (m : Mu) : dForX t g b e m = match t e m with
  | .ok x m1 => dLoopG g b x.2 x.1 e m1
  | .exc C fs m1 => .exc C fs e m1
  | .stuck => .stuck := rfl
section
variable {X : Cx} {elt tg iter tg1 iter1 : Expr} {ifs ifs1 : List Expr} {scope : Scope} {own : List (Str × Nat)} {vs1 : List Nat} {pos spos : Pos} {t t1 : DAG} {g g1 : DG} {c c1 : DT} {b : DE} {sl sl1 : List Nat} {fin : List D → Mu → Res D}
end
open Classical in
noncomputable def dLc1G (n : Nat) (gd : Mu → Prop) (g : DG) (c : DT) (b : DE) (e : En) : List D → Mu → Res Unit
  | [], m => if gd m then .ok () m else .stuck
  | d :: ds, m => if gd m then (match g d e with
    | none => .stuck
    | some e1 => match c e1 m with
      | .ok true m1 => match b e1 m1 with
        | .ok x m2 => match m2[n]? with
          | some (.lst acc) => if acc.length < sizeLine then dLc1G n gd g c b e ds (m2.set n (.lst (acc ++ [x]))) else .stuck
          | _ => .stuck
        | _ => .stuck
      | .ok false m1 => dLc1G n gd g c b e ds m1
      | _ => .stuck) else .stuck
open Classical in
noncomputable def dLc2G (n : Nat) (gd : Mu → Prop) (g : DG) (c : DT) (t1 : DAG) (g1 : DG) (c1 : DT) (b : DE) (vs1 : List Nat) (e : En) : List D → Mu → Res Unit
  | [], m => if gd m then .ok () m else .stuck
  | d :: ds, m => if gd m then (match g d e with
    | none => .stuck
    | some e1 => match c e1 m with
      | .ok true m1 => match t1 e1 m1 with
        | .ok x1 m2 => (dLc1G n x1.2 g1 c1 b (wipeE e1 vs1) x1.1 m2).bind fun _ m3 => dLc2G n gd g c t1 g1 c1 b vs1 e ds m3
        | _ => .stuck
      | .ok false m1 => dLc2G n gd g c t1 g1 c1 b vs1 e ds m1
      | _ => .stuck) else .stuck
noncomputable def dComp2X (t : DAG) (g : DG) (c : DT) (t1 : DAG) (g1 : DG) (c1 : DT) (b : DE) (own vs1 : List Nat) : DE := fun e m =>
  (t e m).bind fun x m1 => (dLc2G m1.length x.2 g c t1 g1 c1 b vs1 (wipeE e own) x.1 (m1 ++ [.lst []])).bind fun _ m2 => .ok (.loc m1.length) m2
@[simp ↓] theorem dComp2X_ap (t : DAG) (g : DG) (c : DT) (t1 : DAG) (g1 : DG) (c1 : DT) (b : DE) (own vs1 : List Nat) (e : En) (m : Mu) : dComp2X t g c t1 g1 c1 b own vs1 e m =
  (t e m).bind fun x m1 => (dLc2G m1.length x.2 g c t1 g1 c1 b vs1 (wipeE e own) x.1 (m1 ++ [.lst []])).bind fun _ m2 => .ok (.loc m1.length) m2 := rfl
section
variable {X : Cx} {elt tg iter tg1 iter1 : Expr} {ifs ifs1 : List Expr} {scope : Scope} {own : List (Str × Nat)} {vs1 : List Nat} {pos spos : Pos} {t t1 : DAG} {g g1 : DG} {c c1 : DT} {b : DE} {sl sl1 : List Nat}
end
end DL

namespace DL
open PySem PySem.Spec PyProof.Rows L2
variable [LamTab]
def dAugI (i : Nat) (f : Int → Int → Int) (t : DE) : DS := fun e m => match e[i]? with
  | some (some (.int a)) => rsOf e (t e m) fun d m1 => match d with
    | .int b => .nx (e.set i (some (.int (f a b)))) m1
    | _ => .stuck
  | _ => .stuck
@[simp ↓] theorem dAugI_ap (i : Nat) (f : Int → Int → Int) (t : DE) (e : En) (m : Mu) : dAugI i f t e m = match e[i]? with
  | some (some (.int a)) => rsOf e (t e m) fun d m1 => match d with
    | .int b => .nx (e.set i (some (.int (f a b)))) m1
    | _ => .stuck
  | _ => .stuck := rfl
section
variable {X : Cx} {a : Expr} {ta : DE} {pos : Pos}
def dSlM (t : DE) (lo hi : DO) : DE := fun e m => (t e m).bind fun d m1 => (lo e m1).bind fun l m2 => (hi e m2).bind fun h m3 => match seqL m3 d with
  | some ds => .ok (.loc m3.length) (m3 ++ [.lst (cutD ds l h)])
  | none => .stuck
@[simp ↓] theorem dSlM_ap (t : DE) (lo hi : DO) (e : En) (m : Mu) : dSlM t lo hi e m = (t e m).bind fun d m1 => (lo e m1).bind fun l m2 => (hi e m2).bind fun h m3 => match seqL m3 d with
  | some ds => .ok (.loc m3.length) (m3 ++ [.lst (cutD ds l h)])
  | none => .stuck := rfl
end
end DL

namespace DL
open PySem PySem.Spec PyProof.Rows L2
variable [LamTab]
section
variable {X : Cx}
def dFunBK (g : List D → List D → Mu → Res D) (t u : DA) : DE := fun e m => (t e m).bind fun ds m1 => (u e m1).bind fun zs m2 => g ds zs m2
@[simp ↓] theorem dFunBK_ap (g : List D → List D → Mu → Res D) (t u : DA) (e : En) (m : Mu) : dFunBK g t u e m = (t e m).bind fun ds m1 => (u e m1).bind fun zs m2 => g ds zs m2 := rfl
def gMinDf : List D → List D → Mu → Res D := fun ds zs m => match ds, zs with
  | [d], [z] => match (seqL m d).bind toIs with
    | some [] => .ok z m
    | some (n :: ns) => .ok (.int (minI (n :: ns))) m
    | none => .stuck
  | _, _ => .stuck
@[simp] theorem gMinDf_ap (d z : D) (m : Mu) : gMinDf [d] [z] m = match (seqL m d).bind toIs with
    | some [] => .ok z m
    | some (n :: ns) => .ok (.int (minI (n :: ns))) m
    | none => .stuck := rfl
end
end DL

set_option maxHeartbeats 1000000
namespace DL
open PySem PySem.Spec PyProof.Rows L2 RZ
variable [LamTab]
def dItZ3 (t : DA) : DA := fun e m => (t e m).bind fun ds m1 => match ds with
  | [.lst xs, .lst ys, .lst zs] => .ok ((xs.zip (ys.zip zs)).map fun p => .tup [p.1, p.2.1, p.2.2]) m1
  | _ => .stuck
@[simp ↓] theorem dItZ3_ap (t : DA) (e : En) (m : Mu) : dItZ3 t e m = (t e m).bind fun ds m1 => match ds with
  | [.lst xs, .lst ys, .lst zs] => .ok ((xs.zip (ys.zip zs)).map fun p => .tup [p.1, p.2.1, p.2.2]) m1
  | _ => .stuck := rfl
section
variable {X : Cx} {a b c : Expr} {t : DA} {p pos tpos : Pos}
end
end DL

set_option maxHeartbeats 1000000
namespace DL
open PySem PySem.Spec PyProof.Rows L2 RZ
variable [LamTab]
section
variable {prog : Program} {w : World} {A : Around}
end
def dListZip (t : DA) : DE := fun e m => (t e m).bind fun ds m1 => match ds with
  | [.lst xs, .lst ys] => .ok (.lst ((xs.zip ys).map fun p => .tup [p.1, p.2])) m1
  | _ => .stuck
@[simp ↓] theorem dListZip_ap (t : DA) (e : En) (m : Mu) : dListZip t e m = (t e m).bind fun ds m1 => match ds with
  | [.lst xs, .lst ys] => .ok (.lst ((xs.zip ys).map fun p => .tup [p.1, p.2])) m1
  | _ => .stuck := rfl
section
variable {X : Cx} {a b : Expr} {t : DA} {p1 p2 pos1 pos2 : Pos}
end
end DL

set_option maxHeartbeats 1000000
namespace DL
open PySem PySem.Spec PyProof.Rows L2 RZ
variable [LamTab]
section
variable {prog : Program} {w : World} {A : Around} {E : Value → Shared → Prop} {s : Shared}
end
def dItET (t : DA) : DA := fun e m => (t e m).bind fun ds m1 => match ds with
  | [.tup es] => .ok ((List.range es.length).zipWith (fun k d => .tup [.int (k : Nat), d]) es) m1
  | _ => .stuck
@[simp ↓] theorem dItET_ap (t : DA) (e : En) (m : Mu) : dItET t e m = (t e m).bind fun ds m1 => match ds with
  | [.tup es] => .ok ((List.range es.length).zipWith (fun k d => .tup [.int (k : Nat), d]) es) m1
  | _ => .stuck := rfl
section
variable {X : Cx} {a : Expr} {t : DA} {p pos tpos : Pos}
end
end DL

set_option maxHeartbeats 2000000
namespace DL
open PySem PySem.Spec PyProof.Rows L2
variable [LamTab]
section
variable {M : Model} {A : Around} {E : Value → Shared → Prop} {sq : Shared} {Zp : Obj → Prop} {gr : Heap} {fe : Env} {oth : List Env} {Lf Lx ad : Addr}
end
section
variable {X : Cx}
end
def dCompLE (g : DG) (c : DT) (b : DE) (e : En) : List D → Mu → List D → Res (List D)
  | [], m, acc => .ok acc m
  | d :: ds, m, acc => match g d e with
    | none => .stuck
    | some e1 => match c e1 m with
      | .ok true m1 => match b e1 m1 with
        | .ok x m2 => if acc.length < sizeLine then dCompLE g c b e ds m2 (acc ++ [x]) else .stuck
        | .exc C fs m2 => .exc C fs m2
        | .stuck => .stuck
      | .ok false m1 => dCompLE g c b e ds m1 acc
      | _ => .stuck
def dCompE (t : DA) (g : DG) (c : DT) (b : DE) (own : List Nat) : DE := fun e m => (t e m).bind fun ds m1 => (dCompLE g c b (wipeE e own) ds m1 []).bind fun xs m2 => .ok (.lst xs) m2
@[simp ↓] theorem dCompE_ap (t : DA) (g : DG) (c : DT) (b : DE) (own : List Nat) (e : En) (m : Mu) : dCompE t g c b own e m = (t e m).bind fun ds m1 => (dCompLE g c b (wipeE e own) ds m1 []).bind fun xs m2 => .ok (.lst xs) m2 := rfl
section
variable {X : Cx} {elt tg iter : Expr} {ifs : List Expr} {scope : Scope} {own : List (Str × Nat)} {pos spos : Pos} {t : DA} {g : DG} {c : DT} {b : DE} {sl : List Nat}
end
end DL

namespace DL
open PySem PySem.Spec PyProof.Rows L2
variable [LamTab]
section
variable {X : Cx} {tg : Expr}
end
def dItRA (t : DA) : DA := fun e m => (t e m).bind fun ds m1 => match ds with
  | [.int i, .int j] => .ok (rngD i (j - i).toNat) m1
  | _ => .stuck
@[simp ↓] theorem dItRA_ap (t : DA) (e : En) (m : Mu) : dItRA t e m = (t e m).bind fun ds m1 => match ds with
  | [.int i, .int j] => .ok (rngD i (j - i).toNat) m1
  | _ => .stuck := rfl
section
variable {X : Cx} {tg a b : Expr} {t : DA} {p pos : Pos}
end
end DL

set_option maxHeartbeats 1000000
namespace DL
open PySem PySem.Spec PyProof.Rows L2
open Sem (wp)
section
def isSusp : GenState → Bool
  | .suspended .. => true
  | _ => false
def deadS : GenState → GenState
  | .suspended _ l c p fs cl => .suspended (fun _ => .unsupported "") l c p fs cl
  | x => x
def retF : Frame → Bool
  | .ret .. => true
  | .gen .. => false
def okS : GenState → Prop
  | .suspended k _ _ _ fs _ => (∀ r, k r = .unsupported "") ∨ fs.all retF = true
  | _ => True
def backS (G0 : Array GenState) (i : Nat) (x : GenState) : GenState := match G0[i]? with
  | some y => if isSusp y = true then y else x
  | none => x
def backG (G0 G : Array GenState) : Array GenState := G.mapIdx (backS G0)
def back (G0 : Array GenState) (s : Shared) : Shared := { s with gens := backG G0 s.gens }
structure Lull (G0 : Array GenState) (s : Shared) : Prop where
  hold : ∀ (i : Nat) (y : GenState), G0[i]? = some y → isSusp y = true → s.gens[i]? = some (deadS y)
  ok : ∀ (i : Nat) (y : GenState), s.gens[i]? = some y → okS y
theorem backG_get (G0 G : Array GenState) (i : Nat) : (backG G0 G)[i]? = G[i]?.map (backS G0 i) := by
  unfold backG
  rw [Array.getElem?_mapIdx]
theorem backG_size (G0 G : Array GenState) : (backG G0 G).size = G.size := by unfold backG; simp
theorem backS_free {G0 : Array GenState} {i : Nat} {x : GenState} (h : ∀ y, G0[i]? = some y → isSusp y = false) : backS G0 i x = x := by
  unfold backS
  split
  · rename_i y e
    rw [h y e]; rfl
  · rfl
theorem deadS_susp {y : GenState} (h : isSusp y = true) : ∃ l c p fs cl, deadS y = .suspended (fun _ => .unsupported "") l c p fs cl := by
  cases y <;> first | exact ⟨_, _, _, _, _, rfl⟩ | cases h
variable {G0 : Array GenState}
theorem Lull.free {s : Shared} (L : Lull G0 s) {g : Nat} {x : GenState} (hg : s.gens[g]? = some x) (hx : ∀ l c p fs cl, x ≠ .suspended (fun _ => .unsupported "") l c p fs cl) : ∀ y, G0[g]? = some y → isSusp y = false := fun y e => by
  cases h : isSusp y with
  | false => rfl
  | true =>
    have := L.hold g y e h
    rw [hg] at this
    obtain ⟨l, c, p, fs, cl, e2⟩ := deadS_susp h
    rw [e2] at this
    exact absurd (Option.some.inj this) (hx l c p fs cl)
theorem Lull.push {s : Shared} (L : Lull G0 s) {c : Code} : Lull G0 { s with gens := s.gens.push (.fresh c) } ∧ back G0 { s with gens := s.gens.push (.fresh c) } = { back G0 s with gens := (back G0 s).gens.push (.fresh c) } := by
  have hf : ∀ y, G0[s.gens.size]? = some y → isSusp y = false := fun y e => by
    cases h : isSusp y with
    | false => rfl
    | true =>
      have := L.hold _ y e h
      rw [Array.getElem?_eq_none (Nat.le_refl _)] at this
      cases this
  refine ⟨⟨fun i y e h => ?_, fun i y e => ?_⟩, ?_⟩
  · have q := L.hold i y e h
    have hlt := (Array.getElem?_eq_some_iff.mp q).1
    show (s.gens.push (.fresh c))[i]? = _
    rw [Array.getElem?_push_lt hlt]
    rw [Array.getElem?_eq_getElem hlt] at q
    exact q
  · have e : (s.gens.push (.fresh c))[i]? = some y := e
    rw [Array.getElem?_push] at e
    split at e
    · cases e; trivial
    · exact L.ok i y e
  · have : backG G0 (s.gens.push (.fresh c)) = (backG G0 s.gens).push (.fresh c) := by
      apply Array.ext_getElem?
      intro i
      rw [backG_get, Array.getElem?_push, Array.getElem?_push, backG_get, backG_size]
      split
      · subst_vars; exact congrArg some (backS_free hf)
      · rfl
    show ({ s with gens := _ } : Shared) = _
    unfold back
    simp only [this]
theorem Lull.stay {s s2 : Shared} (L : Lull G0 s) (e : s2.gens = s.gens) : Lull G0 s2 := ⟨fun i y h1 h2 => by rw [e]; exact L.hold i y h1 h2, fun i y h1 => L.ok i y (by rw [← e]; exact h1)⟩
def Slp (s s' : Shared) : Prop := ∀ (i : Nat) (y : GenState), s.gens[i]? = some y → isSusp y = true → s'.gens[i]? = some y
theorem Slp.refl (s : Shared) : Slp s s := fun _ _ e _ => e
theorem Slp.trans {a b c : Shared} (h : Slp a b) (k : Slp b c) : Slp a c := fun i y e z => k i y (h i y e z) z
end
end DL

set_option maxHeartbeats 1000000
namespace DL
open PySem PySem.Spec PyProof.Rows L2
open Sem (wp)
section
variable {X : Cx}
end
end DL

set_option maxHeartbeats 1000000
namespace DL
open PySem PySem.Spec PyProof.Rows L2
open Sem (wp)
section
variable {prog : Program} {w : World} {A : Around} {R : GenEnd} {Y : Protocol} {n : Nat} {s₀ : Shared} {c : Code} {fs : List Frame} {s : Shared} {env : Env}
  {K : Flow → Sem PySem.Fin} {J : Value → Sem PySem.Fin} {gd : Bool → Bool} {lv : List Value → List Value}
variable {l L it : Addr} {xs : List V} {y : Str} {p1 p2 p3 p4 : Pos}
end
section
variable {M : Model}
end
section
variable {prog : Program} {w : World} {A : Around} {E : Value → Shared → Prop} {s : Shared}
end
section
variable {P : Program} {w : World} {K : PySem.W.Frag} {A0 : Around} {C ob a L l : Addr} {g : Nat} {y sf f : Str} {p1 p2 p3 p4 p5 ps pa : Pos} {env : Env} {xs : List V}
end
end DL

set_option maxHeartbeats 1000000
namespace DL
open PySem PySem.Spec PyProof.Rows L2
open Sem (wp)
section
variable {X : Cx} {tg o : Expr} {m x qual : Str} {C fa : Addr} {fd : FuncData} {params : Arguments} {scope : Scope} {ta : TE} {y sf f : Str} {p1 p2 p3 p4 p5 ps pa apos pos' : Pos}
end
variable [LamTab]
def dItW (c : Kl) (i : Nat) (t : DE) : DA := fun e m => (t e m).bind fun d m1 => match d with
  | .obj c' ds => if c' = c then match ds[i]? with
    | some (.lst es) => .ok es m1
    | _ => .stuck
    else .stuck
  | _ => .stuck
@[simp ↓] theorem dItW_ap (c : Kl) (i : Nat) (t : DE) (e : En) (m : Mu) : dItW c i t e m = (t e m).bind fun d m1 => match d with
  | .obj c' ds => if c' = c then match ds[i]? with
    | some (.lst es) => .ok es m1
    | _ => .stuck
    else .stuck
  | _ => .stuck := rfl
section
variable {X : Cx} {tg o : Expr} {mn f : Str} {c : Kl} {i : Nat} {to : DE} {apos pos : Pos}
end
section
variable {X : Cx}
variable {elt tg iter : Expr} {ifs : List Expr} {scope : Scope} {own : List (Str × Nat)} {pos spos : Pos} {t : DA} {g : DG} {c : DT} {b : DE} {sl : List Nat}
end
end DL

set_option maxHeartbeats 4000000
namespace DL
open PySem PySem.Spec PyProof.Rows L2
variable [LamTab]
def insB {α : Type} (lt : α → α → Bool) (x : α) : List α → List α
  | [] => [x]
  | y :: ys => if lt y x then y :: insB lt x ys else x :: y :: ys
def srtB {α : Type} (lt : α → α → Bool) : List α → List α
  | [] => []
  | x :: xs => insB lt x (srtB lt xs)
def ltI (x y : Int) : Bool := decide (x < y)
abbrev ltPP (x y : Int × Int) : Bool := SrtO.lexB x y
def sortI (xs : List Int) : List Int := srtB ltI xs
def sortP (xs : List (Int × Int)) : List (Int × Int) := srtB ltPP xs
section
variable {X : Cx}
def gSumL : DFn := fun ds m => match ds with
  | [d] => match (seqL m d).bind toIs with
    | some ns => .ok (.int ns.sum) m
    | _ => .stuck
  | _ => .stuck
@[simp] theorem gSumL_ap (d : D) (m : Mu) : gSumL [d] m = match (seqL m d).bind toIs with
    | some ns => .ok (.int ns.sum) m
    | _ => .stuck := rfl
def gSortI : DFn := fun ds m => match ds with
  | [d] => match (seqL m d).bind toIs with
    | some ns => .ok (.lst ((sortI ns).map .int)) m
    | _ => .stuck
  | _ => .stuck
@[simp] theorem gSortI_ap (d : D) (m : Mu) : gSortI [d] m = match (seqL m d).bind toIs with
    | some ns => .ok (.lst ((sortI ns).map .int)) m
    | _ => .stuck := rfl
def prD (p : Int × Int) : D := .tup [.int p.1, .int p.2]
def toPrs : List D → Option (List (Int × Int))
  | [] => some []
  | .tup [.int a, .int b] :: ds => match toPrs ds with
    | some ps => some ((a, b) :: ps)
    | none => none
  | _ => none
@[simp] theorem toPrs_map : ∀ ps : List (Int × Int), toPrs (ps.map prD) = some ps
  | [] => rfl
  | p :: ps => by
    show (match toPrs (ps.map prD) with | some ps => some ((p.1, p.2) :: ps) | none => none) = _
    rw [toPrs_map ps]
open Classical in
def gSortP : DFn := fun ds m => match ds with
  | [d] => match (seqL m d).bind toPrs with
    | some ns => .ok (.lst ((sortP ns).map prD)) m
    | _ => .stuck
  | _ => .stuck
@[simp] theorem gSortP_ap (d : D) (m : Mu) : gSortP [d] m = match (seqL m d).bind toPrs with
    | some ns => .ok (.lst ((sortP ns).map prD)) m
    | _ => .stuck := rfl
end
end DL

set_option maxHeartbeats 4000000
namespace L2
open PySem PySem.Spec PyProof.Rows
open PpSet (newSet_ok eval_SetComp codeAny_compStart_set compLoopS_any)
section
variable {X : Cx}
end
end L2
namespace DL
open PySem PySem.Spec PyProof.Rows L2
variable [LamTab]
def insU (x : Int) : List Int → List Int
  | [] => [x]
  | y :: ys => if y < x then y :: insU x ys else if x = y then y :: ys else x :: y :: ys
def setI : List Int → List Int
  | [] => []
  | x :: xs => insU x (setI xs)
section
variable {X : Cx}
variable {elt tg iter : Expr} {ifs : List Expr} {scope : Scope} {own : List (Str × Nat)} {pos p cpos : Pos} {t : DA} {g : DG} {c : DT} {b : DE} {sl : List Nat}
noncomputable def dCompI (g : DG) (c : DT) (b : DE) (e : En) : List D → Mu → List Int → Res (List Int)
  | [], m, acc => .ok acc m
  | d :: ds, m, acc => match g d e with
    | none => .stuck
    | some e1 => match c e1 m with
      | .ok true m1 => match b e1 m1 with
        | .ok (.int k) m2 => if acc.length < 4000 then dCompI g c b e ds m2 (acc ++ [k]) else .stuck
        | _ => .stuck
      | .ok false m1 => dCompI g c b e ds m1 acc
      | _ => .stuck
noncomputable def dSortSC (t : DA) (g : DG) (c : DT) (b : DE) (own : List Nat) : DE := fun e m => (t e m).bind fun ds m1 => (dCompI g c b (wipeE e own) ds m1 []).bind fun ks m2 => if (setI ks).length < 64 then .ok (.lst ((setI ks).map .int)) m2 else .stuck
@[simp ↓] theorem dSortSC_ap (t : DA) (g : DG) (c : DT) (b : DE) (own : List Nat) (e : En) (m : Mu) : dSortSC t g c b own e m = (t e m).bind fun ds m1 => (dCompI g c b (wipeE e own) ds m1 []).bind fun ks m2 => if (setI ks).length < 64 then .ok (.lst ((setI ks).map .int)) m2 else .stuck := rfl
end
end DL

set_option maxHeartbeats 4000000
namespace DL
open PySem PySem.Spec PyProof.Rows L2
open PySem.W (excTail excTail_cases excTail_contains excTail_pass excInitIn excOver)
structure XB (B newId initId : String) (tl : List Value) : Prop where
  F : ExcBaseFacts B newId initId tl
  pass : ∀ self : Value, refuseLoop self "__setattr__" tl = pure ()
  obj : tl.contains (.type "object") = true
  ne : tl.isEmpty = false
  kx : PySem.W.KxsFacts B initId
theorem xb_VE : XB "ValueError" "ValueError.__new__" "ValueError.__init__" [.type "ValueError", .type "Exception", .type "BaseException", .type "object"] := ⟨F.excBase_ValueError, F.store_ValueError.passes, by decide +kernel, rfl, PySem.W.kxs_ValueError⟩
theorem tail_obj {tl : List Value} (h : tl.contains (.type "object") = true) {l : List Value} (e : excTail tl l = true) : l.contains (.type "object") = true := (excTail_contains "object" l e).trans h
section
open Builtin Builtin.ObjectAttr
variable {prog : Program} {w : World} {A : Around} {E : Value → Shared → Prop} {R : Result → Shared → Prop} {hp : Heap} {g : Array GenState} {d : Drawn} {t : Nat} {os : OsState}
theorem exg_osa {K : PySem.W.Frag} {name : Str} {tk : Tok} {v : Value} {x C : Addr} {fv : Array Value} {cd : ClassData}
    (X : K.In hp) (hx : hp.get? x = some { cls := .ref C, data := .fields fv }) (hcd : PySem.W.clsIn K C = some cd) (ne : cd.mro.isEmpty = false) (hob : cd.mro.contains (.type "object") = true) (hps : refuseLoop (.ref x) "__setattr__" cd.mro = pure ()) (hh : cd.hasDict = true) (ha : PySem.W.findIn K (.ref C) name = some none)
    (hq : ∀ h' tk' dx, (∀ b o, b ≠ x → hp.get? b = some o → h'.get? b = some o) → hp.objs.size ≤ dx → dx ≠ x → h'.get? x = some { cls := .ref C, dict := some dx, data := .fields fv } →
      h'.Ns1 dx (fun y => if y = name then some v else none) → R (.ok (.ret .none)) ⟨h', g, d, tk', os⟩) :
    codeAny (model prog w) A (.call (.builtin "object.__setattr__") ⟨[.ref x, .str name tk, v], []⟩) R ⟨hp, g, d, t, os⟩ := by
  have I : PySem.W.InstAt hp x { cls := .ref C, data := .fields fv } C none := ⟨hx, rfl, rfl, trivial⟩
  have SF := F.store_object
  have hxs : x ≠ hp.objs.size := Nat.ne_of_lt (Heap.lt_size hx)
  have sub : PySem.W.Looks (model prog w) hp (isInstance (.ref x) (.type "object")) true := I.type.andThen (PySem.W.looks_mroIn X (by unfold PySem.W.mroIn; rw [hcd, Option.bind_some, if_neg (by rw [ne]; decide), hob]))
  refine codeAny_call_builtin SF.slot.plain SF.entry (@PySem.W.check_slot (model prog w) _ _ ⟨hp, g, d, t, os⟩ "object.__setattr__" "object" "__setattr__" (.ref x) [.str name tk, v] [] _ SF.kind SF.split sub (SF.args (.ref x) (.str name tk) v) ?_)
  have hmr : PySem.W.Looks (model prog w) hp (mroOf (.ref C)) cd.mro := (PySem.W.looks_clsIn X hcd).andThen .now
  have L3 : PySem.W.Looks (model prog w) hp (storeTaker? none) none := .now
  have hcls : PySem.W.Looks (model prog w) hp (classData C) cd := PySem.W.looks_clsIn X hcd
  rw [PySem.W.osa_eq, refuse_eq]
  refine wpAny_bind (wpAny_bind (I.type.at (wpAny_bind (hmr.at ?_))))
  rw [hps]
  refine wpAny_pure (wpAny_bind (I.type.at (wpAny_bind ((PySem.W.looks_findIn X ha).at (wpAny_bind (L3.at ?_))))))
  show wpAny _ _ (storeInOwnDict (.ref x) (.ref C) (.str name tk) name v false) _ _ _
  obtain ⟨nm, bs, mro, ns, qn, hd, sn, sb, ab, col, del⟩ := cd
  dsimp only at hh
  subst hh
  unfold storeInOwnDict ownDictForStores
  repeat (first | with_reducible refine HandSPX.store_in_new ?_ ?_ | with_reducible refine wpAny_loadPart_at hx ?_ | with_reducible refine hcls.at ?_ | wp_step)
  · exact ⟨_, #[], _, (Heap.get?_update_ne _ _ _ _ hxs.symm).trans (Heap.get?_push_at rfl rfl), rfl, fun e he => absurd he (by simp), fun _ => rfl⟩
  · intro h' tk' hn' hs
    have hx₁ : (hp.push { cls := .type "dict", data := .dict #[] }).get? x = some { cls := .ref C, data := .fields fv } := Heap.get?_push_of_some _ hx
    refine hq h' tk' hp.objs.size (fun b o hb ho => ?_) (Nat.le_refl _) hxs.symm ?_ hn'
    · exact (hs.2 b (Nat.ne_of_lt (Heap.lt_size ho))).trans ((Heap.get?_update_ne _ _ _ _ hb).trans (Heap.get?_push_of_some _ ho))
    · exact (hs.2 x hxs).trans (Heap.get?_update_self _ hx₁ rfl)
theorem exg_osaD {K : PySem.W.Frag} {name : Str} {tk : Tok} {v : Value} {x C dx : Addr} {fv : Array Value} {cd : ClassData} {m0 : Str → Option Value} {nl : List Str}
    (X : K.In hp) (hx : hp.get? x = some { cls := .ref C, dict := some dx, data := .fields fv }) (hns : hp.Ns1 dx m0) (hw : Within m0 nl) (hz : nl.length ≤ 1000) (hcd : PySem.W.clsIn K C = some cd) (ne : cd.mro.isEmpty = false) (hob : cd.mro.contains (.type "object") = true) (hps : refuseLoop (.ref x) "__setattr__" cd.mro = pure ()) (hh : cd.hasDict = true)
    (ha : PySem.W.findIn K (.ref C) name = some none)
    (hq : ∀ h' tk', (∀ b o, b ≠ dx → hp.get? b = some o → h'.get? b = some o) → h'.Ns1 dx (fun y => if y = name then some v else m0 y) → R (.ok (.ret .none)) ⟨h', g, d, tk', os⟩) :
    codeAny (model prog w) A (.call (.builtin "object.__setattr__") ⟨[.ref x, .str name tk, v], []⟩) R ⟨hp, g, d, t, os⟩ := by
  obtain ⟨oD, esD, epD, hoD, hdD, _⟩ := hns.count hw
  have I : PySem.W.InstAt hp x { cls := .ref C, dict := some dx, data := .fields fv } C (some oD) := ⟨hx, rfl, rfl, hoD⟩
  have SF := F.store_object
  have sub : PySem.W.Looks (model prog w) hp (isInstance (.ref x) (.type "object")) true := I.type.andThen (PySem.W.looks_mroIn X (by unfold PySem.W.mroIn; rw [hcd, Option.bind_some, if_neg (by rw [ne]; decide), hob]))
  refine codeAny_call_builtin SF.slot.plain SF.entry (@PySem.W.check_slot (model prog w) _ _ ⟨hp, g, d, t, os⟩ "object.__setattr__" "object" "__setattr__" (.ref x) [.str name tk, v] [] _ SF.kind SF.split sub (SF.args (.ref x) (.str name tk) v) ?_)
  have hmr : PySem.W.Looks (model prog w) hp (mroOf (.ref C)) cd.mro := (PySem.W.looks_clsIn X hcd).andThen .now
  have L3 : PySem.W.Looks (model prog w) hp (storeTaker? none) none := .now
  have hcls : PySem.W.Looks (model prog w) hp (classData C) cd := PySem.W.looks_clsIn X hcd
  rw [PySem.W.osa_eq, refuse_eq]
  refine wpAny_bind (wpAny_bind (I.type.at (wpAny_bind (hmr.at ?_))))
  rw [hps]
  refine wpAny_pure (wpAny_bind (I.type.at (wpAny_bind ((PySem.W.looks_findIn X ha).at (wpAny_bind (L3.at ?_))))))
  show wpAny _ _ (storeInOwnDict (.ref x) (.ref C) (.str name tk) name v false) _ _ _
  obtain ⟨nm, bs, mro, ns, qn, hd, sn, sb, ab, col, del⟩ := cd
  dsimp only at hh
  subst hh
  unfold storeInOwnDict ownDictForStores
  repeat (first | with_reducible refine OEX.store_in_old hns hw hz ?_ | with_reducible refine wpAny_loadPart_at hx ?_ | with_reducible refine hcls.at ?_ | wp_step)
  intro h' tk' hn' hs
  exact hq h' tk' (fun b o hb ho => (hs.2 b hb).trans ho) hn'
end
structure OexG (K : PySem.W.Frag) (C : Addr) : Prop where
  base : ∃ B newId initId tl, XB B newId initId tl ∧ excInitIn K C tl newId = true
  dict : PySem.W.hasDictIn K C = true
  sa : PySem.W.findIn K (.ref C) "__setattr__" = some (some (.builtin "object.__setattr__"))
  exC : PySem.W.subIn K (.ref C) (.type "BaseException") = some true
  tyC : PySem.W.typeIn K (.ref C) = some (.type "type")
  kC : PySem.W.keepIn K (.ref C) = true
theorem OexG.cls {K : PySem.W.Frag} {C : Addr} (T : OexG K C) : ∃ B newId initId tl nm N q bs bm sn sub ab col dd k0 k1 k2 k3 k5, XB B newId initId tl ∧ K.lookup C = some (excClassObj nm q C N bs bm true sn sub ab col dd k0 k1 k2 k3 k5 newId) ∧ excTail tl bm = true := by
  obtain ⟨B, newId, initId, tl, xb, q⟩ := T.base
  have hd := T.dict
  unfold excInitIn at q
  split at q
  · rename_i dd cd sl ho
    split at q
    · rename_i C' bm k0 k1 k2 k3 n k5 hm hs
      simp only [Bool.and_eq_true, beq_iff_eq, Bool.not_eq_true'] at q
      obtain ⟨⟨⟨rfl, rfl⟩, hdel⟩, ht⟩ := q
      obtain ⟨nm, bs, mro, ns, qn, hdd, sn, sub, ab, col, del⟩ := cd
      dsimp only at hm hdel
      subst hm hdel
      have hsl : sl = #[k0, k1, k2, k3, some (.builtin n), k5] := by
        obtain ⟨l⟩ := sl
        simp only at hs
        rw [hs]
      subst hsl
      have : hdd = true := by
        unfold PySem.W.hasDictIn PySem.W.clsIn at hd
        rw [ho] at hd
        exact hd
      subst this
      exact ⟨B, n, initId, tl, nm, ns, qn, bs, bm, sn, sub, ab, col, dd, k0, k1, k2, k3, k5, xb, ho, ht⟩
    · cases q
  · cases q
section
variable {X : Cx} {pins : List (Addr × Obj)} {σ : L2.St} {H : Hp} {s : Shared} {a C dx : Addr} {f : Str} {y : V} {u : Value} {fs : List (Str × V)} {Q : Unit → Shared → Prop} {E : Value → Shared → Prop} {A : Around}
theorem xst_new (T : OexG X.K C) (I : Inv X pins σ H s) (e : H a = some (exo a C none)) (hno : PySem.W.findIn X.K (.ref C) f = some none) (ry : RelV y u)
    (h : ∀ dx s', H dx = none → dx ≠ a → Inv X pins σ (upd (upd H dx (exd dx [(f, y)])) a (exo a C (some dx))) s' → Q () s') : wpAny (model X.prog X.w) A (setAttr (.ref a) f u) Q E s := by
  obtain ⟨B, newId, initId, tl, nm, N, q, bs, bm, sn, sub, ab, col, dd, k0, k1, k2, k3, k5, xb, hC, hbm⟩ := T.cls
  have hcl : PySem.W.clsIn X.K C = some { name := nm, bases := bs, mro := .ref C :: bm, ns := N, qualname := q, hasDict := true, slotNames := sn, subclasses := sub, abstract := ab, collection := col, hasDel := false } := by unfold PySem.W.clsIn; rw [hC] <;> rfl
  obtain ⟨t1, ho⟩ := exo_at I.hok e
  obtain ⟨hp, g, d, t, os⟩ := s
  refine PySem.W.set_plain I.kIn (ox := { cls := .ref C, dict := none, data := .fields #[.ref t1, .none, .none, .none, .bool false, .none] }) (od := none) ⟨ho, rfl, rfl, trivial⟩ T.sa ?_
  refine exg_osa I.kIn ho hcl rfl (tail_obj xb.obj (show excTail tl (.ref C :: bm) = true from hbm)) (excTail_pass _ (xb.pass _) _ (show excTail tl (.ref C :: bm) = true from hbm)) rfl hno (fun h' tk' dx k dn dne hx hn => ?_)
  have hnd : H dx = none := I.hok.fresh dn
  have nd : ∀ {b : Addr} {o : Obj}, hp.get? b = some o → b ≠ dx := fun {b o} q => Nat.ne_of_lt (Nat.lt_of_lt_of_le (Heap.lt_size q) dn)
  have na : ∀ {b : Addr}, H b = none → b ≠ a := fun {b} n z => by
    rw [z, e] at n
    cases n
  have Un1 : Un X.fs [] H (upd (upd H dx (exd dx [(f, y)])) a (exo a C (some dx))) hp h' := {
    keep := fun b o q n _ _ => k b o (na n) q
    slot := fun b o q n _ _ => ⟨o.slots, k b o (na n) q⟩
    free := fun b o q n _ => by rw [upd_ne (na n), upd_ne (nd q)]; exact n
    there := fun b o q _ => by
      by_cases hb : b = a
      · exact ⟨_, by rw [hb]; exact hx⟩
      · exact ⟨o, k b o hb q⟩
    tups := fun b xs q => by rw [upd_ne (at_ne e q exo_tup), upd_ne (ne_of_none q hnd)]; exact q
    frzs := fun b o v q => by rw [upd_ne (at_ne e q exo_frz), upd_ne (ne_of_none q hnd)]; exact q
    tbls := fun b ps q => ⟨#[], by rw [upd_ne (at_ne e q exo_tbl), upd_ne (ne_of_none q hnd), q]; simp⟩ }
  refine h dx _ hnd dne (I.un (t' := tk') Un1 fun b o q => ?_)
  by_cases hb : b = a
  · subst hb
    rw [upd_same] at q
    cases q
    exact exo_ok hx
  · rw [upd_ne hb] at q
    by_cases hd : b = dx
    · subst hd
      rw [upd_same] at q
      cases q
      exact exd_ok hn (relO_put (fs := []) ry fun g => True.intro)
    · rw [upd_ne hd] at q
      exact (I.hok b o q).stay (fun c v hc z => k c v (by
          rcases hc with hc | hc
          · rw [hc]
            exact hb
          · exact at_ne e hc exo_own) z)
        (fun c hc => by rw [upd_ne (at_ne e hc exo_own), upd_ne (ne_of_none hc hnd)]; exact hc) (fun c xs hc => by rw [upd_ne (at_ne e hc exo_tup), upd_ne (ne_of_none hc hnd)]; exact hc)
theorem xst_old (T : OexG X.K C) (I : Inv X pins σ H s) (e : H a = some (exo a C (some dx))) (ed : H dx = some (exd dx fs)) (hl : fs.length ≤ 900) (hno : PySem.W.findIn X.K (.ref C) f = some none) (ry : RelV y u)
    (h : ∀ s', Inv X pins σ (upd H dx (exd dx ((f, y) :: fs))) s' → Q () s') : wpAny (model X.prog X.w) A (setAttr (.ref a) f u) Q E s := by
  obtain ⟨B, newId, initId, tl, nm, N, q, bs, bm, sn, sub, ab, col, dd, k0, k1, k2, k3, k5, xb, hC, hbm⟩ := T.cls
  have hcl : PySem.W.clsIn X.K C = some { name := nm, bases := bs, mro := .ref C :: bm, ns := N, qualname := q, hasDict := true, slotNames := sn, subclasses := sub, abstract := ab, collection := col, hasDel := false } := by unfold PySem.W.clsIn; rw [hC] <;> rfl
  obtain ⟨t1, ho⟩ := exo_at I.hok e
  obtain ⟨mA, hns, rel⟩ := exd_at I.hok ed
  have hw := within_of rel
  obtain ⟨hp, g, d, t, os⟩ := s
  obtain ⟨oD, _, _, hoD, _, _⟩ := hns.count hw
  refine PySem.W.set_plain I.kIn (ox := { cls := .ref C, dict := some dx, data := .fields #[.ref t1, .none, .none, .none, .bool false, .none] }) (od := some oD) ⟨ho, rfl, rfl, hoD⟩ T.sa ?_
  refine exg_osaD I.kIn ho hns hw (by rw [List.length_map]; omega) hcl rfl (tail_obj xb.obj (show excTail tl (.ref C :: bm) = true from hbm)) (excTail_pass _ (xb.pass _) _ (show excTail tl (.ref C :: bm) = true from hbm)) rfl hno (fun h' tk' k hn => ?_)
  have hd : ∃ o, h'.get? dx = some o := by
    obtain ⟨o, _, _, e', _⟩ := hn
    exact ⟨o, e'⟩
  exact h _ (I.write (t' := tk') (x := dx) (e := dx) (o := exd dx ((f, y) :: fs)) (by rw [ed]; exact True.intro) (.inl rfl) k hd (exd_ok hn (relO_put ry rel)))
end
end DL

set_option maxHeartbeats 4000000
namespace DL
open PySem PySem.Spec PyProof.Rows L2
variable [LamTab]
def tXst (K : PySem.W.Frag) (f : Str) (to te : TE) : TS := fun D σ H => te σ H fun y H1 => to σ H1 fun x H2 => ∃ a C : Addr, x = .ref a ∧ OexG K C ∧ PySem.W.findIn K (.ref C) f = some none ∧
  ((H2 a = some (exo a C none) ∧ ∀ dx, H2 dx = none → dx ≠ a → D.nx σ (upd (upd H2 dx (exd dx [(f, y)])) a (exo a C (some dx)))) ∨
    ∃ (dx : Addr) (fs : List (Str × V)), H2 a = some (exo a C (some dx)) ∧ H2 dx = some (exd dx fs) ∧ fs.length ≤ 900 ∧ D.nx σ (upd H2 dx (exd dx ((f, y) :: fs))))
section
variable {X : Cx} {a e o : Expr} {es : List Expr} {ta to : DE} {te0 to0 : TE} {t : DA} {f : Str} {p p' p1 p2 pos : Pos}
theorem ps_xst (ho : PE X o to0) (he : PE X e te0) (hs : swapsWith e (some (.Attribute o f p')) pos.line X.env = pure false := by rfl) : PS X (.Assign [.Attribute o f p'] e pos) (tXst X.K f to0 te0) := by
  refine ⟨fun pins s σ H D I h => ?_⟩
  refine plainObj_wpAny_Assign_Attribute (thn (he.run pins s σ H _ I h) fun v s1 ⟨y, H1, I1, r1, q1⟩ => thn (ho.run pins s1 σ H1 _ I1 q1) fun u s2 ⟨x, H2, I2, r2, a, C, ex, T, hno, q⟩ => ?_) hs
  subst ex
  obtain rfl : u = Value.ref a := r2
  rcases q with ⟨ea, q⟩ | ⟨dx, fs, ea, ed, hl, q⟩
  · exact xst_new T I2 ea hno r1 fun dx s' n ne J => ⟨σ, _, J, q dx n ne⟩
  · exact xst_old T I2 ea ed hl hno r1 fun s' J => ⟨σ, _, J, q⟩
def dPutX (Cs : List Addr) (f : Str) (tv to : DE) : DS := fun e m => rsOf e (tv e m) fun v m1 => rsOf e (to e m1) fun o m2 => match o with
  | .loc n => match m2[n]? with
    | some (.exo C none) => if C ∈ Cs then .nx e ((m2 ++ [Mo.exd [(f, v)]]).set n (.exo C (some m2.length))) else .stuck
    | some (.exo C (some k)) => match m2[k]? with
      | some (.exd fs) => if C ∈ Cs ∧ fs.length ≤ 900 then .nx e (m2.set k (.exd ((f, v) :: fs))) else .stuck
      | _ => .stuck
    | _ => .stuck
  | _ => .stuck
@[simp ↓] theorem dPutX_ap (Cs : List Addr) (f : Str) (tv to : DE) (e : En) (m : Mu) : dPutX Cs f tv to e m = rsOf e (tv e m) fun v m1 => rsOf e (to e m1) fun o m2 => match o with
  | .loc n => match m2[n]? with
    | some (.exo C none) => if C ∈ Cs then .nx e ((m2 ++ [Mo.exd [(f, v)]]).set n (.exo C (some m2.length))) else .stuck
    | some (.exo C (some k)) => match m2[k]? with
      | some (.exd fs) => if C ∈ Cs ∧ fs.length ≤ 900 then .nx e (m2.set k (.exd ((f, v) :: fs))) else .stuck
      | _ => .stuck
    | _ => .stuck
  | _ => .stuck := rfl
theorem pds_putX {Cs : List Addr} (hv : PDE X a ta) (ho : PDE X o to) (hC : ∀ C ∈ Cs, OexG X.K C ∧ PySem.W.findIn X.K (.ref C) f = some none) (hs : swapsWith a (some (.Attribute o f p')) pos.line X.env = pure false := by rfl) :
    PDS X (.Assign [.Attribute o f p'] a pos) (dPutX Cs f ta to) := by
  refine ps_of (ps_xst (mxE X o) (mxE X a) hs) fun S r m σ N sa re p => ?_
  refine hv S r m σ _ sa re (PDE.stm re p fun v m1 vv T st sa1 rv q => ?_)
  refine ho T r m1 σ _ sa1 (re.stp st) (PDE.stm (re.stp st) q fun d m2 vo U st2 sa2 ro q2 => ?_)
  split at q2
  · rename_i n
    cases ro with
    | @loc _ a hn =>
    split at q2
    · rename_i C e1
      split at q2
      · rename_i hc
        obtain ⟨c1, c2⟩ := hC C hc
        have h1 : U.H a = some (exo a C none) := sa2.ok n _ _ hn e1
        refine ⟨a, C, rfl, c1, c2, .inl ⟨h1, fun dx hd hne => ?_⟩⟩
        have stA := Stp.tok sa2 (o := exd dx [(f, vv)]) hd
        have saA := sa2.tok (o := exd dx [(f, vv)]) hd (q := .exd [(f, v)]) ⟨[(f, vv)], upd_same, .cons ((rv.stp st2).stp stA) .nil⟩
        have hnA := pre_get stA.pre hn
        have hk : (U.tok dx (exd dx [(f, vv)])).i[m2.length]? = some dx := by
          show (U.i ++ [dx])[m2.length]? = some dx
          rw [← sa2.len, List.getElem?_append_right (Nat.le_refl _), Nat.sub_self]; rfl
        obtain ⟨stZ, saZ⟩ := saA.put (o := exo a C (some dx)) (q := .exo C (some m2.length)) hnA ⟨dx, hk, upd_same⟩
        exact q2 σ _ (stA.trans stZ) saZ (((re.stp st).stp st2).stp (stA.trans stZ))
      · exact q2.elim
    · rename_i C k e1
      split at q2
      · rename_i fs e2
        split at q2
        · rename_i hc
          obtain ⟨c1, c2⟩ := hC C hc.1
          obtain ⟨dx, hk, h1⟩ := sa2.ok n _ _ hn e1
          obtain ⟨vs, h2, h3⟩ := sa2.ok k _ _ hk e2
          refine ⟨a, C, rfl, c1, c2, .inr ⟨dx, vs, h1, h2, by rw [← h3.len]; exact hc.2, ?_⟩⟩
          obtain ⟨stZ, saZ⟩ := sa2.put (o := exd dx ((f, vv) :: vs)) (q := .exd ((f, v) :: fs)) hk ⟨_, upd_same, .cons (rv.stp st2) h3⟩
          exact q2 σ _ stZ saZ (((re.stp st).stp st2).stp stZ)
        · exact q2.elim
      · exact q2.elim
    · exact q2.elim
  · exact q2.elim
end
structure SupCx (X : Cx) (f D cc : Addr) (first : Str) : Prop where
  func : X.env.func = some f
  hks : X.env.kindOf "super" = some .globalImplicit
  hkc : X.env.kindOf "__class__" = some .free
  cel : X.env.cells.lookup ("__class__" : Str) = some cc
  cell : ∃ cl cld csl, X.K.lookup cc = some ⟨cl, cld, .cell (some (.ref D)), csl⟩
  cls : ∃ cdD, PySem.W.clsIn X.K D = some cdD
  fn : ∃ oc od fd osl ar, X.K.lookup f = some ⟨oc, od, .func fd, osl⟩ ∧ (fd.params.posonlyargs ++ fd.params.args).head? = some ar ∧ ar.arg = first
  code : ∃ cda ccl cdd vs ccs file tf, X.env.code = .ref cda ∧ X.K.lookup cda = some ⟨ccl, cdd, .fields vs, ccs⟩ ∧ vs[2]? = some (.str file tf) ∧ ((X.prog.main.file : Str) == file) = true
  top : (X.prog.main.scope.names.lookup ("super" : Str)).isSome = false
  hm : X.mg "super" = none
  n0 : X.N[0]? = some first
  loc : X.env.kindOf first = some .local
  st : PySem.W.nsIn X.K cStatics "thirdparty.any" = some none
structure ObjC (h : Heap) (a C : Addr) : Prop where
  ex : ∃ ox : Obj, h.get? a = some ox ∧ ox.cls = .ref C ∧ PySem.W.notCls ox = true
section
variable {X : Cx} {f Dc cc : Addr} {first : Str} {pins : List (Addr × Obj)} {σ : L2.St} {H : Hp} {s : Shared} {a C : Addr} {body : List Stmt} {E : Value → Shared → Prop} {p0 p1 : Pos} {attr : Str} {whole : Sem Value}
theorem sup_base {Q : Value → Shared → Prop} (B : SupCx X f Dc cc first) (I : Inv X pins σ H s) (hσ : σ[0]? = some (some (.ref a))) (ho : ObjC s.heap a C) (hsub : PySem.W.mroIn X.K C (.ref Dc) = some true) (hat : (attr == ("__class__" : Str)) = false)
    (h : ∀ so s', Inv X pins σ H s' → s'.heap.get? so = some (PySem.W.ks_superObj Dc a C) → (∀ b o, s.heap.get? b = some o → s'.heap.get? b = some o) → Q (.ref so) s') :
    PySem.wpAt (model X.prog X.w) X.A (.func body X.env) (attributeBase (.Call (.Name "super" p0) [] [] p1) attr X.env whole) Q E s := by
  obtain ⟨cl, cld, csl, hcell⟩ := B.cell
  obtain ⟨cdD, hD⟩ := B.cls
  obtain ⟨oc, od, fd, osl, ar, lf, hp, har⟩ := B.fn
  obtain ⟨cda, ccl, cdd, vs, ccs, file, tf, hcode, lc, hvs, hfile⟩ := B.code
  have KX := I.kIn
  obtain ⟨oD, hD1, hD2⟩ : ∃ oD, s.heap.get? Dc = some oD ∧ oD.data = .cls cdD := by
    unfold PySem.W.clsIn at hD
    split at hD
    · rename_i c d cd' sl ho
      cases hD
      exact ⟨_, KX _ _ ho, rfl⟩
    · cases hD
  obtain ⟨ox, hx, hxc, hnc⟩ := ho.ex
  obtain ⟨mb, hb1, hb2⟩ := I.mod.blt
  obtain ⟨mm, hns, hl⟩ := id I.loc
  obtain ⟨u, ru, look⟩ := hl 0 first (.ref a) B.n0 hσ (.inl B.loc)
  obtain rfl : u = Value.ref a := ru
  have hmv : mm first = some (.ref a) := by
    rcases look with ⟨_, z⟩ | ⟨k, _⟩
    · exact z
    · rw [B.loc] at k
      rcases k with k | k <;> cases k
  refine ks_wpAt_super_base B.hks B.hkc hat B.func (KX _ _ lf) rfl hp hcode (KX _ _ lc) rfl hvs hfile B.top ?_
  refine PySem.W.ks_loadName_global I.ok.kind B.hks (Calls.loadGlobal_builtin (by rw [I.ok.glob]; exact I.mod.glob.keeps I.bk) B.hm (by rw [I.ok.blt]; exact hb1.keeps I.bk) ((hb2 _ (by decide +kernel)).trans (by first | rfl | kernel_rfl)) ⟨rfl, ?_⟩)
  refine wpAny_loadName_free I.ok.kind B.hkc B.cel ⟨_, KX _ _ hcell, rfl⟩ ?_
  rw [har]
  refine wpAny_loadName_local I.ok.kind B.loc hns hmv ?_
  obtain ⟨hp', g, d, t, os⟩ := s
  refine ks_wpAny_isType_cls hD1 hD2 ⟨rfl, ?_⟩
  refine ks_wpAny_call_super hD1 hD2 hx hxc (fun c e => ?_) (PySem.W.looks_mroIn KX hsub) (fun h' e k => ?_)
  · unfold PySem.W.notCls at hnc
    rw [e] at hnc
    exact Bool.noConfusion hnc
  · exact h _ _ (I.kept (t' := t) k) e k
structure SupM (P : Program) (w : World) (K : PySem.W.Frag) (mg : Str → Option Value) (base : Heap) (k : Nat) (Dc : Addr) (Cs : List Addr) (mn : Str) (G : DFn) : Prop where
  ex : ∃ (f2 : Addr) (fd : FuncData) (ps : List Str) (dds : List D) (G0 : DFn), (∀ C ∈ Cs, PySem.W.ks_superIn K C Dc mn = some (some (.ref f2)) ∧ PySem.W.mroIn K C (.ref Dc) = some true) ∧ PySem.W.typeIn K (.ref f2) = some (.type "function") ∧ PySem.W.fnIn K f2 = true ∧
    FnD P w K mg base k f2 fd ps G0 ∧ Bd K fd ps dds ∧ G = padF ps.length dds G0
def Mo.cls : Mo → Option Addr
  | .ins C _ => some C
  | .exo C none => some C
  | _ => none
def dSupR (Cs : List Addr) (G : DFn) (t : DA) : DE := fun e m => match e[(0 : Nat)]? with
  | some (some (.loc n)) => match (m[n]?).bind Mo.cls with
    | some C => if C ∈ Cs then (t e m).bind fun ds m1 => G (.loc n :: ds) m1 else .stuck
    | none => .stuck
  | _ => .stuck
def dSup (Cs : List Addr) (G : DFn) (t : DA) : DS := fun e m => rsOf e (dSupR Cs G t e m) fun _ m1 => .nx e m1
@[simp ↓] theorem dSupR_ap (Cs : List Addr) (G : DFn) (t : DA) (e : En) (m : Mu) : dSupR Cs G t e m = match e[(0 : Nat)]? with
  | some (some (.loc n)) => match (m[n]?).bind Mo.cls with
    | some C => if C ∈ Cs then (t e m).bind fun ds m1 => G (.loc n :: ds) m1 else .stuck
    | none => .stuck
  | _ => .stuck := rfl
@[simp ↓] theorem dSup_ap (Cs : List Addr) (G : DFn) (t : DA) (e : En) (m : Mu) : dSup Cs G t e m = rsOf e (dSupR Cs G t e m) fun _ m1 => .nx e m1 := rfl
theorem mo_obj {S : Wd} {m : Mu} {n : Nat} {o : Mo} {C : Addr} (I : Inv X pins σ S.H s) (sa : Sta X.K S m) (hn : S.i[n]? = some a) (e1 : m[n]? = some o) (hc : Mo.cls o = some C) : ObjC s.heap a C := by
  have q := sa.ok n a o hn e1
  cases o with
  | ins C' fs =>
    cases hc
    obtain ⟨dx, vs, h1, _⟩ := q
    obtain ⟨od, J⟩ := Inv.inst I h1
    exact ⟨_, J.at_, J.cls, J.no⟩
  | exo C' d =>
    cases d with
    | none =>
      cases hc
      obtain ⟨t1, ho⟩ := exo_at I.hok q
      exact ⟨_, ho, rfl, rfl⟩
    | some k => cases hc
  | _ => cases hc
theorem run_fnC {k : Nat} {f : Addr} {fd : FuncData} {ps : List Str} {G : DFn} {dds : List D} {A : Around} {S : Wd} {m : Mu} {Q : VK} {us : List Value} {vs : List V} {das : List D} (F : FnD X.prog X.w X.K X.mg X.base k f fd ps G) (hr : Room k A) (hb : Bd X.K fd ps dds)
    (hA : A.frames = X.A.frames) (I : Inv X pins σ S.H s) (sa : Sta X.K S m) (r : Reps X.K S.i S.F das vs) (rv : Vals vs us) (h : PostD X.K S (padF ps.length dds G das m) Q (fun c d H => Fly X c d σ H)) :
    codeAny (model X.prog X.w) A (.call (.ref f) ⟨us, []⟩) (fun r s' => match r with | .ok (.ret u) => EP X pins σ Q u s' | .ok _ => False | .error e => X.xe e s') s := by
  unfold padF at h
  split at h
  · rename_i hl
    obtain ⟨ds, dvs, hb, hd, hD⟩ := hb.ex
    have r1 : Reps X.K S.i S.F (das ++ dds) (vs ++ dvs) := r.append (hD _ _)
    have r2 : Vals (vs ++ dvs) (us ++ ds) := rv.append hd
    have hlv : (vs ++ dvs).length = ps.length := by rw [← r1.len]; exact hl
    have hl2 : (us ++ ds).length = ps.length := by rw [← r2.length]; exact hlv
    have e0 := I.env0
    have e1 : Env0 X.prog X.w X.K X.mg X.base A X.stack s S.H := ⟨hA.trans e0.frames, e0.mod, e0.bs, e0.bsz, e0.funs, e0.frf, e0.hok, e0.bare⟩
    refine codeAny_mono (F.run A X.stack s S.H ⟨us, []⟩ (us ++ ds) (vs ++ dvs) Q (fun c d H => Fly X c d σ H) hr e1 (hb s us I.kIn hl2) r2 ⟨hlv, S, m, _, rfl, sa, r1, h⟩) fun r s' hq => ?_
    cases r with
    | error e =>
      obtain ⟨a, B, sI, pins', σ', H', cls, d, e1, I', nb, up, sky, na, os, ag, e2, fl⟩ := XE.of_call I (W := fun c d σ' H => σ' = σ ∧ Fly X c d σ H) (fun cls d H' h => ⟨rfl, h⟩) hq
      exact fl e s' ⟨a, B, sI, pins', σ', H', cls, d, e1, I', nb, up, sky, na, os, ag, rfl, rfl, e2, rfl⟩
    | ok fl =>
      cases fl with
      | ret u => exact I.after hq
      | next => exact False.elim hq
      | brk => exact False.elim hq
      | cont => exact False.elim hq
  · exact h.elim
def PDSat (X : Cx) (body : List Stmt) (st : Stmt) (u : DS) : Prop := ∀ S r m σ N, Sta X.K S m → RelE X.K S r σ → PostS X.K S (u r m) N (Fly X) → ∀ pins s, Inv X pins σ S.H s → PySem.wpAt (model X.prog X.w) X.A (.func body X.env) (exec st X.env) (SP X pins N) X.xe s
theorem pdsat_sup {k : Nat} {Cs : List Addr} {G : DFn} {t : DA} {e : Expr} {es : List Expr} {apos cpos spos : Pos} {pl : Sem Bool} (B : SupCx X f Dc cc first) (M : SupM X.prog X.w X.K X.mg X.base k Dc Cs "__init__" G) (hr : Room k X.A) (ha : PDA X (e :: es) t)
    (he : eval (.Call (.Attribute (.Call (.Name "super" p0) [] [] p1) "__init__" apos) (e :: es) [] cpos) X.env = (do
      let ov ← attributeBase (.Call (.Name "super" p0) [] [] p1) "__init__" X.env (eval (.Call (.Name "super" p0) [] [] p1) X.env)
      standAt apos.atName
      let (f, first) ← holding [ov] (getMethod ov "__init__" pl)
      callWith cpos f first (backTo cpos (starEach (e :: es) X.env)) []) := by rfl)
    (hi : interactive X.env = false := by rfl) (hs : swapsWith (.Call (.Attribute (.Call (.Name "super" p0) [] [] p1) "__init__" apos) (e :: es) [] cpos) none spos.line X.env = pure false := by rfl)
    (hst : starEach (e :: es) X.env = (false, eval e X.env) :: starEach es X.env := by exact se_cons _ _ _ rfl) (hpl : (backTo cpos (starEach es X.env)).any (·.1) = false := by exact se_any _ _ _ rfl) :
    PDSat X body (.Expr (.Call (.Attribute (.Call (.Name "super" p0) [] [] p1) "__init__" apos) (e :: es) [] cpos) spos) (dSup Cs G t) := by
  intro S r m σ N sa re p pins s I
  obtain ⟨f2, fd2, ps2, dds2, G0, hrows, hty, hfn, hF, hb, rfl⟩ := M.ex
  have p2 : PostD X.K S (dSupR Cs (padF ps2.length dds2 G0) t r m) (fun v H => N.nx σ H) (fun c d H => Fly X c d σ H) :=
    PDE.stm re p fun d m1 v T st sa1 rd q => q σ T (Stp.refl T) sa1 (re.stp st)
  unfold dSupR at p2
  split at p2
  · rename_i n hr0
    split at p2
    · rename_i C hC
      split at p2
      · rename_i hmem
        obtain ⟨vself, hσ, rself⟩ := re.2 0 _ hr0
        cases rself with
        | @loc _ a hn =>
        cases e1 : m[n]? with
        | none => rw [e1] at hC; cases hC
        | some o =>
        rw [e1] at hC
        have hC : Mo.cls o = some C := hC
        have ob := mo_obj I sa hn e1 hC
        obtain ⟨hsup, hmro⟩ := hrows C hmem
        refine ks_wpAt_Expr_any (ks_wpAt_MethodCall (sup_base B I hσ ob hmro (by decide +kernel) fun so s1 I1 hso hk => ?_) he) hi hs
        have KX := I1.kIn
        obtain ⟨ox, hx, hxc, hnc⟩ := ob.ex
        have hx1 := hk _ _ hx
        have hxC : a ≠ C := by
          rintro rfl
          unfold PySem.W.ks_superIn at hsup
          cases hc : PySem.W.clsIn X.K a with
          | none => rw [hc] at hsup; cases hsup
          | some cd =>
            unfold PySem.W.clsIn at hc
            split at hc
            · rename_i c d cd' sl ho
              have e := KX _ _ ho
              rw [hx1] at e
              cases e
              exact Bool.noConfusion hnc
            · cases hc
        obtain ⟨of, hof, hofc⟩ : ∃ of, s1.heap.get? f2 = some of ∧ of.cls = .type "function" := by
          have ht' : (X.K.lookup f2).map (·.cls) = some (.type "function") := hty
          cases z : X.K.lookup f2 with
          | none => rw [z] at ht'; cases ht'
          | some of => rw [z] at ht'; exact ⟨of, KX _ _ z, Option.some.inj ht'⟩
        cases hc : PySem.W.clsIn X.K C with
        | none => unfold PySem.W.ks_superIn at hsup; rw [hc] at hsup; cases hsup
        | some cd =>
        unfold PySem.W.ks_superIn at hsup
        rw [hc] at hsup
        obtain ⟨hp, g, d, t0, os⟩ := s1
        refine ks_wpAny_getMethod_super hso (PySem.W.looks_opaque KX B.st) (l₀ := cd.mro) (fun A Q E s k q => wpAny_bind ((PySem.W.looks_clsIn KX hc) A _ E s k (wpAny_pure q))) rfl KX hsup hof hofc hxC (by decide +kernel) ?_
        have nq : S.H hp.objs.size = none := I1.hok.fresh (Nat.le_refl _)
        have I2 : Inv X pins σ (upd S.H hp.objs.size (.met f2 a)) ⟨hp.push (PySem.W.methodObj (.ref f2) (.ref a)), g, d, t0 + 1, os⟩ := I1.laid (t' := t0 + 1) (a := hp.objs.size) (o := .met f2 a) (fun b u z => Heap.get?_push_of_some _ z) (Nat.le_refl _)
          (show (hp.push (PySem.W.methodObj (.ref f2) (.ref a))).get? hp.objs.size = some (PySem.W.methodObj (.ref f2) (.ref a)) from Heap.get?_push_size hp rfl)
        have f0 := sa.fresh nq
        have saQ := sa.hid (o := .met f2 a) f0.1 f0.2 (by rw [nq]; exact nofun)
        have stQ : Stp S (S.put hp.objs.size (.met f2 a)) := (Stp.refl S).hid nq
        show wpAny _ _ (callWith cpos (.ref hp.objs.size) [] (backTo cpos (starEach (e :: es) X.env)) []) _ _ _
        have pQ := Post.step (r := (t r m).bind fun ds m1 => padF ps2.length dds2 G0 (.loc n :: ds) m1) stQ p2
        have run := ha.run saQ (re.stp stQ) pQ I2 cpos
        rw [hst] at run ⊢
        refine PySem.W.callWith_of (P := PySem.W.MethP X.K hp.objs.size f2 (.ref a)) (by show ((false || (backTo cpos (starEach es X.env)).any (·.1)) || false) = false; rw [hpl]; rfl) (PySem.W.keeps_M hfn) (Calls.evalArgs_plain (thn run ?_))
        rintro us s3 ⟨xs, ds, m1, T, st1, sa1, rds, rv, I3, q3⟩
        obtain ⟨k1, k2, k3⟩ := st1.frame hp.objs.size (.met f2 a) (by exact nofun) (by show upd S.H _ _ _ = _; rw [upd_same]) f0.1 f0.2
        refine ⟨met_P I3 k1, ?_⟩
        have hn3 := pre_get (stQ.trans st1).pre hn
        refine wpAny_call (codeAny_mono (call_met I3 k1 (run_fnC hF hr hb rfl I3 sa1 (.cons (.loc hn3) rds) (.cons rfl rv) q3)) fun rr s4 hq => ?_)
        cases rr with
        | error er => exact hq
        | ok fl =>
          cases fl with
          | ret u =>
            obtain ⟨v, H', I4, _, q4⟩ := hq
            exact ⟨σ, H', I4, q4⟩
          | next => exact False.elim hq
          | brk => exact False.elim hq
          | cont => exact False.elim hq
      · exact p2.elim
    · exact p2.elim
  · exact p2.elim
end
end DL

set_option maxHeartbeats 4000000
namespace DL
open PySem PySem.Spec PyProof.Rows L2
variable [LamTab]
open PySem.W (excInitIn excInit_of excObj excTup)
structure SupBi (K : PySem.W.Frag) (Dc C : Addr) : Prop where
  ex : ∃ B newId initId tl, XB B newId initId tl ∧ excInitIn K C tl newId = true ∧ PySem.W.ks_superIn K C Dc "__init__" = some (some (.builtin initId)) ∧ PySem.W.mroIn K C (.ref Dc) = some true ∧ PySem.W.subIn K (.ref C) (.type B) = some true
def dSupBR (Cs : List Addr) (t : DA) : DE := fun e m => match e[(0 : Nat)]? with
  | some (some (.loc n)) => match m[n]? with
    | some (.exo C none) => if C ∈ Cs then (t e m).bind fun ds m1 => match m1[n]? with
        | some (.exo C' none) => if C' = C ∧ ds.length ≤ sizeLine then .ok .non m1 else .stuck
        | _ => .stuck
      else .stuck
    | _ => .stuck
  | _ => .stuck
def dSupB (Cs : List Addr) (t : DA) : DS := fun e m => rsOf e (dSupBR Cs t e m) fun _ m1 => .nx e m1
@[simp ↓] theorem dSupBR_ap (Cs : List Addr) (t : DA) (e : En) (m : Mu) : dSupBR Cs t e m = match e[(0 : Nat)]? with
  | some (some (.loc n)) => match m[n]? with
    | some (.exo C none) => if C ∈ Cs then (t e m).bind fun ds m1 => match m1[n]? with
        | some (.exo C' none) => if C' = C ∧ ds.length ≤ sizeLine then .ok .non m1 else .stuck
        | _ => .stuck
      else .stuck
    | _ => .stuck
  | _ => .stuck := rfl
@[simp ↓] theorem dSupB_ap (Cs : List Addr) (t : DA) (e : En) (m : Mu) : dSupB Cs t e m = rsOf e (dSupBR Cs t e m) fun _ m1 => .nx e m1 := rfl
theorem pinO_ok {P : Program} {w : World} {H : Hp} {h : Heap} {b : Addr} {o : Obj} (e : h.get? b = some o) : ObjOk P w H h b (pinO b o) := ⟨e, ⟨o, e⟩, fun h1 h2 φ st => st _ φ⟩
section
variable {X : Cx} {f Dc cc : Addr} {first : Str} {pins : List (Addr × Obj)} {σ : L2.St} {H : Hp} {s : Shared} {a C : Addr} {body : List Stmt} {E : Value → Shared → Prop} {p0 p1 : Pos} {attr : Str} {whole : Sem Value}
theorem mw_call {A : Around} {B newId i : String} {tl : List Value} {q0 : Addr} {us : List Value} {Q : Value → Shared → Prop} (xb : XB B newId i tl) (q : excInitIn X.K C tl newId = true) (I : Inv X pins σ H s) (hq : s.heap.get? q0 = some (PySem.W.kxs_mw i a)) (e : H a = some (exo a C none)) (hl : us.length ≤ sizeLine)
    (h : ∀ s', Inv X pins σ H s' → Q .none s') : wpAny (model X.prog X.w) A (call (.ref q0) us) Q E s := by
  obtain ⟨nm, N', qn, bs, bm, hdct, sn, sub, ab, col, dd, k0, k1, k2, k3, k5, hC, hT⟩ := excInit_of I.kIn q
  obtain ⟨t1, ho⟩ := exo_at I.hok e
  obtain ⟨hp, g, d, t, os⟩ := s
  refine wpAny_call (codeAny_of_tree ?_)
  show wpAny _ A.in1 (callAny (.ref q0) ⟨us, []⟩) _ _ _
  simp only [callAny]
  refine wpAny_bind (wpAny_load hq ?_)
  simp only [PySem.W.kxs_mw, show (Value.type "method-wrapper" == Value.type "method" || Value.type "method-wrapper" == Value.type "builtin_function_or_method" || Value.type "method-wrapper" == Value.type "method-wrapper") = true by decide, if_true]
  refine PySem.W.KFB.if_so (by decide) ?_
  refine wpAny_bind (PySem.W.check_bound_init xb.F.toExcCallFacts hC ho rfl ?_)
  refine wpAny_bind (wpAny_pure (wpAny_pure ?_))
  refine ⟨plainId_quiet xb.F.init.plain _, codeAny_builtin xb.F.initEntry ?_⟩
  refine PySem.W.exc_init_tree (cls := .ref C) (t0 := t1) (dv := none) (c2 := .none) (c3 := .none) (b4 := .bool false) ho hl fun h' k hx ht => ?_
  have J := I.write (t' := t) (x := a) (e := a) (o := exo a C none) (by rw [e]; exact True.intro) (.inl rfl) k ⟨_, hx⟩ (exo_ok hx)
  have eu : upd H a (exo a C none) = H := by
    funext b
    by_cases hb : b = a
    · rw [hb, upd_same, e]
    · rw [upd_ne hb]
  rw [eu] at J
  exact h _ J
theorem pdsat_supB {Cs : List Addr} {t : DA} {e : Expr} {es : List Expr} {apos cpos spos : Pos} {pl : Sem Bool} (B : SupCx X f Dc cc first) (M : ∀ C ∈ Cs, SupBi X.K Dc C) (ha : PDA X (e :: es) t)
    (he : eval (.Call (.Attribute (.Call (.Name "super" p0) [] [] p1) "__init__" apos) (e :: es) [] cpos) X.env = (do
      let ov ← attributeBase (.Call (.Name "super" p0) [] [] p1) "__init__" X.env (eval (.Call (.Name "super" p0) [] [] p1) X.env)
      standAt apos.atName
      let (f, first) ← holding [ov] (getMethod ov "__init__" pl)
      callWith cpos f first (backTo cpos (starEach (e :: es) X.env)) []) := by rfl)
    (hi : interactive X.env = false := by rfl) (hs : swapsWith (.Call (.Attribute (.Call (.Name "super" p0) [] [] p1) "__init__" apos) (e :: es) [] cpos) none spos.line X.env = pure false := by rfl)
    (hst : starEach (e :: es) X.env = (false, eval e X.env) :: starEach es X.env := by exact se_cons _ _ _ rfl) (hpl : (backTo cpos (starEach es X.env)).any (·.1) = false := by exact se_any _ _ _ rfl) :
    PDSat X body (.Expr (.Call (.Attribute (.Call (.Name "super" p0) [] [] p1) "__init__" apos) (e :: es) [] cpos) spos) (dSupB Cs t) := by
  intro S r m σ N sa re p pins s I
  have p2 : PostD X.K S (dSupBR Cs t r m) (fun v H => N.nx σ H) (fun c d H => Fly X c d σ H) :=
    PDE.stm re p fun d m1 v T st sa1 rd q => q σ T (Stp.refl T) sa1 (re.stp st)
  unfold dSupBR at p2
  split at p2
  · rename_i n hr0
    split at p2
    · rename_i C e1
      split at p2
      · rename_i hmem
        obtain ⟨vself, hσ, rself⟩ := re.2 0 _ hr0
        cases rself with
        | @loc _ a hn =>
        have hexo : S.H a = some (exo a C none) := sa.ok n a _ hn e1
        have ob := mo_obj I sa hn e1 (show Mo.cls (.exo C none) = some C from rfl)
        obtain ⟨Bn, newId, i, tl, xb, hin, hsup, hmro, hsubB⟩ := (M C hmem).ex
        refine ks_wpAt_Expr_any (ks_wpAt_MethodCall (sup_base B I hσ ob hmro (by decide +kernel) fun so s1 I1 hso hk => ?_) he) hi hs
        have KX := I1.kIn
        obtain ⟨t1, hx0⟩ := exo_at I.hok hexo
        have hx1 := hk _ _ hx0
        have J : PySem.W.InstAt s1.heap a { cls := .ref C, dict := none, data := .fields #[.ref t1, .none, .none, .none, .bool false, .none] } C none := ⟨hx1, rfl, rfl, trivial⟩
        have hI : PySem.W.Looks (model X.prog X.w) s1.heap (isInstance (.ref a) (.type Bn)) true := J.type.andThen (PySem.W.looks_subIn KX hsubB)
        cases hc : PySem.W.clsIn X.K C with
        | none => unfold PySem.W.ks_superIn at hsup; rw [hc] at hsup; cases hsup
        | some cd =>
        unfold PySem.W.ks_superIn at hsup
        rw [hc] at hsup
        have hxC : a ≠ C := PySem.W.ks_ne KX J hc
        obtain ⟨hp, g, d, t0, os⟩ := s1
        refine PySem.W.kxs_getMethod xb.kx hso (PySem.W.looks_opaque KX B.st) (l₀ := cd.mro) (fun A Q E s k q => wpAny_bind ((PySem.W.looks_clsIn KX hc) A _ E s k (wpAny_pure q))) rfl KX hsup hI hxC (by decide +kernel) ?_
        have nq : S.H hp.objs.size = none := I1.hok.fresh (Nat.le_refl _)
        have gq : (hp.push (PySem.W.kxs_mw i a)).get? hp.objs.size = some (PySem.W.kxs_mw i a) := Heap.get?_push_size hp rfl
        have I2 : Inv X pins σ (upd S.H hp.objs.size (pinO hp.objs.size (PySem.W.kxs_mw i a))) ⟨hp.push (PySem.W.kxs_mw i a), g, d, t0 + 1, os⟩ := I1.laid (t' := t0 + 1) (a := hp.objs.size) (o := pinO hp.objs.size (PySem.W.kxs_mw i a)) (fun b u z => Heap.get?_push_of_some _ z) (Nat.le_refl _) (pinO_ok gq)
        have f0 := sa.fresh nq
        have saQ := sa.hid (o := pinO hp.objs.size (PySem.W.kxs_mw i a)) f0.1 f0.2 (by rw [nq]; exact nofun)
        have stQ : Stp S (S.put hp.objs.size (pinO hp.objs.size (PySem.W.kxs_mw i a))) := (Stp.refl S).hid nq
        show wpAny _ _ (callWith cpos (.ref hp.objs.size) [] (backTo cpos (starEach (e :: es) X.env)) []) _ _ _
        have pQ := Post.step (r := (t r m).bind fun ds m1 => match m1[n]? with
          | some (.exo C' none) => if C' = C ∧ ds.length ≤ sizeLine then Res.ok D.non m1 else .stuck
          | _ => .stuck) stQ p2
        have run := ha.run saQ (re.stp stQ) pQ I2 cpos
        rw [hst] at run ⊢
        refine PySem.W.kxs_callWith (i := i) (x := a) (by show (false || (backTo cpos (starEach es X.env)).any (·.1)) = false; rw [hpl]; rfl) (Calls.evalArgs_plain (thn run ?_))
        rintro us s3 ⟨xs, ds, m1, T, st1, sa1, rds, rv, I3, q3⟩
        obtain ⟨k1, k2, k3⟩ := st1.frame hp.objs.size (pinO hp.objs.size (PySem.W.kxs_mw i a)) (by unfold pinO; exact nofun) (by show upd S.H _ _ _ = _; rw [upd_same]) f0.1 f0.2
        have hq3 : s3.heap.get? hp.objs.size = some (PySem.W.kxs_mw i a) := (I3.hok _ _ k1).1
        refine ⟨hq3, ?_⟩
        split at q3
        · rename_i C' e2
          split at q3
          · rename_i hcc
            obtain ⟨rfl, hlen⟩ := hcc
            have hn3 := pre_get (stQ.trans st1).pre hn
            have hexo3 : T.H a = some (exo a C' none) := sa1.ok n a _ hn3 e2
            exact mw_call xb hin I3 hq3 hexo3 (show us.length ≤ sizeLine from by rw [← rv.length, ← rds.len]; exact hlen) fun s4 I4 => ⟨σ, _, I4, q3 .non T (Stp.refl T) sa1 .non⟩
          · exact q3.elim
        · exact q3.elim
      · exact p2.elim
    · exact p2.elim
  · exact p2.elim
end
structure FnScopeS (N P : List Str) (sc : Scope) : Prop where
  kind : sc.kind = .function
  co : sc.isCoroutine = false
  gen : sc.isGenerator = false
  nd : N.Nodup
  pre : N.take P.length = P
  par : ∀ x ∈ P, sc.names.lookup x = some .local
  nocell : ∀ y ∈ sc.names, y.2 ≠ .cell
  free : ∀ y ∈ sc.names, y.2 = .free → y.1 = "__class__"
structure FunS (P : Program) (K : PySem.W.Frag) (x qual : Str) (params : Arguments) (body : List Stmt) (scope : Scope) (dvs : List V) (f : Addr) (fd : FuncData) (Dc cc : Addr) : Prop where
  ex : ∃ (oc : Value) (od : Option Addr) (dV kV doc pm : Value) (an : Option Addr) (cda : Addr) (ct : Value) (osl : Array (Option Value)),
    fd = PySem.W.fnX x qual params body scope [("__class__", cc)] dV kV doc pm an (.ref cda) ct ∧ K.lookup f = some ⟨oc, od, .func fd, osl⟩ ∧ PySem.W.codeIn K (.ref cda) qual = true ∧ DflV K dV dvs ∧
    ∃ ccl cdd vs ccs file tf, K.lookup cda = some ⟨ccl, cdd, .fields vs, ccs⟩ ∧ vs[2]? = some (.str file tf) ∧ ((P.main.file : Str) == file) = true
  cell : ∃ cl cld csl, K.lookup cc = some ⟨cl, cld, .cell (some (.ref Dc)), csl⟩
  cls : ∃ cdD, PySem.W.clsIn K Dc = some cdD
  kp : PySem.W.keepIn K (.ref f) = true
def cxS (CX : CXT) (P : Program) (w : World) (K : PySem.W.Frag) (mg : Str → Option Value) (base : Heap) (N : List Str) (qual : Str) (scope : Scope) (f : Addr) (cd : Value) (cc : Addr) (A : Around) (outer : List Env) (s : Shared) (H : Hp) (E : XK) : Cx where
  prog := P
  w := w
  K := K
  mg := mg
  base := base
  A := A.deeper (PySem.W.ksEnv qual scope s.heap.objs.size f cd cc)
  N := N
  s_0 := s
  H_0 := H
  env := PySem.W.ksEnv qual scope s.heap.objs.size f cd cc
  outer := outer
  stack := PySem.W.ksEnv qual scope s.heap.objs.size f cd cc :: outer
  ex := []
  calm := true
  fn := fun _ => false
  pn := []
  xe := fun e s' => wpAny (model P w) (A.deeper (PySem.W.ksEnv qual scope s.heap.objs.size f cd cc)) (leaving (PySem.W.ksEnv qual scope s.heap.objs.size f cd cc) e) (fun _ s'' => CX outer H s E e s'') (fun e' s'' => CX outer H s E e' s'') s'
theorem lookup_nodup {y : Str} {u : Value} : ∀ {l : List (Str × Value)}, (l.map (·.1)).Nodup → (y, u) ∈ l → l.lookup y = some u
  | [], _, h => by cases h
  | (z, w) :: l, hn, h => by
    rw [List.map_cons, List.nodup_cons] at hn
    rw [List.lookup_cons]
    rcases List.mem_cons.mp h with e | h
    · cases e
      simp
    · have hne : y ≠ z := fun e => hn.1 (e ▸ List.mem_map_of_mem (f := (·.1)) h)
      have : (y == z) = false := by simp [hne]
      rw [this]
      exact lookup_nodup hn.2 h
theorem rev_zip {ps : List Str} {us : List Value} (nd : ps.Nodup) (hl : ps.length = us.length) {i : Nat} {y : Str} {u : Value} (h1 : ps[i]? = some y) (h2 : us[i]? = some u) : (ps.zip us).reverse.lookup y = some u := by
  refine lookup_nodup ?_ ?_
  · rw [List.map_reverse]
    refine List.pairwise_reverse.mpr ?_
    rw [List.map_fst_zip (by omega)]
    exact nd.imp fun h => Ne.symm h
  · rw [List.mem_reverse]
    refine List.mem_of_getElem? (i := i) ?_
    rw [List.getElem?_zip_eq_some]
    exact ⟨h1, h2⟩
section
variable {P : Program} {w : World} {K : PySem.W.Frag} {mg : Str → Option Value} {base : Heap}
theorem inv_startS {CX : CXT} {N ps : List Str} {qual : Str} {scope : Scope} {f : Addr} {cd : Value} {cc Dc : Addr} {A : Around} {outer : List Env} {s : Shared} {h₁ : Heap} {tk : Nat} {H : Hp} {E : XK} {us : List Value} {vs : List V}
    (S : FnScopeS N ps scope) (hd : A.handled = none) (e0 : Env0 P w K mg base A outer s H) (hl : vs.length = ps.length) (r : Vals vs us) (hcell : ∃ cl cld csl, K.lookup cc = some ⟨cl, cld, .cell (some (.ref Dc)), csl⟩)
    (hns : h₁.Ns s.heap.objs.size fun x => (ps.zip us).reverse.lookup x) (kp : ∀ b o, s.heap.get? b = some o → h₁.get? b = some o) :
    Inv (cxS CX P w K mg base N qual scope f cd cc A outer s H E) [] (L2.start N vs) H { s with heap := h₁, toks := tk } := by
  have hpl : ps.length ≤ N.length := by have := congrArg List.length S.pre; rw [List.length_take] at this; omega
  obtain ⟨cl, cld, csl, hcl⟩ := hcell
  have gB := e0.mod.kin _ _ hcl
  obtain ⟨gS, nS⟩ := e0.bs _ _ gB
  have g1 := kp _ _ gS
  have noA : ∀ b : Addr, b ∉ (cxS CX P w K mg base N qual scope f cd cc A outer s H E).ex := fun b z => absurd (show b ∈ ([] : List Addr) from z) (by simp)
  have lk : ∀ {y : Str} {c : Addr}, ([("__class__", cc)] : List (Str × Addr)).lookup y = some c → y = "__class__" ∧ c = cc := fun {y c} h => by
    rw [List.lookup_cons] at h
    split at h
    · rename_i e
      cases h
      exact ⟨by simpa using e, rfl⟩
    · cases h
  have lus : us.length = ps.length := by rw [← r.length]; exact hl
  refine ⟨⟨e0.mod, S.kind, rfl, rfl, Nat.le_refl _, fun y z c h1 h2 => (lk h1).1.trans (lk h2).1.symm, fun y hy => ?_, fun y c z _ => ?_, fun _ => hd, Around.frames_deeper e0.frames, .inr ⟨rfl, rfl⟩, fun b z => absurd z (noA b), e0.bs, e0.bsz, fun b _ _ => noA b, fun b z => absurd z (noA b), e0.funs, e0.frf⟩,
    rfl, e0.bare, Un.kept kp, ⟨_, hns, fun i y v h1 h2 h3 => ?_⟩, fun y c h => ⟨some (.ref Dc), by rw [(lk h).2]; exact ⟨_, g1, rfl⟩⟩, e0.hok.fresh (Nat.le_refl _), fun y c h => ?_, fun p hp => absurd (show p ∈ ([] : List (Addr × Obj)) ++ [] from hp) (by simp), e0.hok.kept kp, ?_⟩
  · have hy : scope.names.lookup y = some .cell ∨ scope.names.lookup y = some .free := hy
    rcases hy with hy | hy
    · exact absurd rfl (S.nocell _ (PySem.mem_of_lookup hy))
    · have e : y = "__class__" := S.free _ (PySem.mem_of_lookup hy) rfl
      exact ⟨cc, by subst e; rfl⟩
  · cases (show false = true from z)
  · have hi : i < vs.length := by
      unfold L2.start at h2
      by_cases hi : i < vs.length
      · exact hi
      · rw [List.getElem?_append_right (by simpa using hi)] at h2
        rw [List.getElem?_replicate] at h2
        split at h2 <;> cases h2
    have ha : vs[i]? = some v := by
      unfold L2.start at h2
      rw [List.getElem?_append_left (by simpa using hi), List.getElem?_map] at h2
      cases e : vs[i]? with
      | none => rw [e] at h2; cases h2
      | some a => rw [e] at h2; cases h2; rfl
    obtain ⟨u, hu, rv⟩ := r.get ha
    have hp : ps[i]? = some y := by
      rw [← S.pre, List.getElem?_take_of_lt (by omega)]; exact h1
    have ndP : ps.Nodup := by rw [← S.pre]; exact S.nd.sublist (List.take_sublist _ _)
    exact ⟨u, rv, .inl ⟨S.par y (List.mem_of_getElem? hp), rev_zip ndP lus.symm hp hu⟩⟩
  · rw [(lk h).2]; exact nS
  · unfold L2.start
    show _ = N.length
    rw [List.length_append, List.length_map, List.length_replicate]
    omega
theorem fnS_of {x qual : Str} {params : Arguments} {st : Stmt} {rest : List Stmt} {scope : Scope} {dvs : List V} {f : Addr} {fd : FuncData} {Dc cc : Addr} {N ps : List Str} {k : Nat} {u v : DS} (F : FunS P K x qual params (st :: rest) scope dvs f fd Dc cc) (S : FnScopeS N ps scope)
    (h : ∀ (cdv : Value) (A : Around) (outer : List Env) (s : Shared) (H : Hp) (E : XK), (∃ cda : Addr, cdv = .ref cda ∧ ∃ ccl cdd vs ccs file tf, K.lookup cda = some ⟨ccl, cdd, .fields vs, ccs⟩ ∧ vs[2]? = some (.str file tf) ∧ ((P.main.file : Str) == file) = true) → Room k (A.deeper (PySem.W.ksEnv qual scope s.heap.objs.size f cdv cc)) →
      PDSat (cxS (L2.CX P w) P w K mg base N qual scope f cdv cc A outer s H E) (st :: rest) st u ∧ PDSs (cxS (L2.CX P w) P w K mg base N qual scope f cdv cc A outer s H E) rest v) :
    FnD P w K mg base (k + 1) f fd ps (dFn N.length (dSeq u v)) := by
  obtain ⟨oc, od, dV, kV, doc, pm, an, cda, ct, osl, rfl, lk, hcd, _, hcode⟩ := F.ex
  refine ⟨fun vs H Q E h => h.1, fun A outer s H args us vs Q E hr e0 hb r hsp => ?_⟩
  have hl := hsp.1
  have KX : K.In s.heap := e0.mod.kin.keeps fun b o e => (e0.bs b o e).1
  have lim : s.heap.NoLimit := e0.mod.nolimit.keeps fun b o e => (e0.bs b o e).1
  refine ks_codeAny_call_defAt (fd := PySem.W.fnX x qual params (st :: rest) scope [("__class__", cc)] dV kV doc pm an (.ref cda) ct) (body := st :: rest) (binds := ps.zip us) hr.depth (KX _ _ lk) rfl lim (PySem.W.codeRec_of KX hcd) rfl hb S.nocell (fun y hy => S.par y.1 (List.of_mem_zip (show (y.1, y.2) ∈ ps.zip us from hy)).1) (fun h₁ hns hk₁ => ?_) S.co S.gen S.kind
  show PySem.wpAt _ (A.deeper (PySem.W.ksEnv qual scope s.heap.objs.size f (.ref cda) cc)) (.func (st :: rest) (PySem.W.ksEnv qual scope s.heap.objs.size f (.ref cda) cc)) (execs (st :: rest) (PySem.W.ksEnv qual scope s.heap.objs.size f (.ref cda) cc)) _ _ _
  obtain ⟨h1, h2⟩ := h (.ref cda) A outer s H E ⟨cda, rfl, hcode⟩ (hr.deeper _)
  obtain ⟨_, T, m, ds, rfl, sa, rd, p⟩ := hsp
  have I : Inv (cxS (L2.CX P w) P w K mg base N qual scope f (.ref cda) cc A outer s T.H E) [] (L2.start N vs) T.H { s with heap := h₁, toks := s.toks + (ps.zip us).length } := inv_startS S hr.hd e0 hl r F.cell hns hk₁
  have tk : Takes (cxS (L2.CX P w) P w K mg base N qual scope f (.ref cda) cc A outer s T.H E) (fun cls d _ H => E cls d H) := takes_of rfl rfl rfl rfl
  have fin : ∀ {σ' : L2.St} {H' : Hp} {v : V} {u : Value} {s' : Shared}, Inv (cxS (L2.CX P w) P w K mg base N qual scope f (.ref cda) cc A outer s T.H E) [] σ' H' s' → RelV v u → Q v H' → CE outer P w T.H s Q u s' :=
    fun {σ' H' v u s'} J rv q => ⟨v, H', J.os, J.bare, J.base, J.hok, rv, q⟩
  let ND : Ends := { nx := fun _ H' => Q .non H', rt := Q }
  have pS : PostS K T (dSeq u v (env0 N.length ds) m) ND (Fly (cxS (L2.CX P w) P w K mg base N qual scope f (.ref cda) cc A outer s T.H E)) := by
    unfold dFn at p
    cases q : dSeq u v (env0 N.length ds) m with
    | stuck => rw [q] at p; exact p.elim
    | nx e m1 => rw [q] at p; exact fun σ U st sa1 re => p .non U st sa1 .non
    | rt d m1 => rw [q] at p; exact fun v U st sa1 r1 => p v U st sa1 r1
    | bk e m1 => rw [q] at p; exact p.elim
    | ct e m1 => rw [q] at p; exact p.elim
    | exc C fs e m1 => rw [q] at p; exact fun dd vs σ U st hn sa1 re h1 h2 => Fly.of tk (p dd vs U st hn sa1 h1 h2)
  have endF : ∀ (fl : Flow) (s' : Shared), SP (cxS (L2.CX P w) P w K mg base N qual scope f (.ref cda) cc A outer s T.H E) [] ND fl s' → CR (L2.CX P w) outer P w T.H s Q E (.ok (.ret (match fl with | .ret v => v | _ => .none))) s' := fun fl s' hs => by
    cases fl with
    | ret u =>
      obtain ⟨v, σ', H', J, rv, q⟩ := hs
      exact fin J rv q
    | next =>
      obtain ⟨σ', H', J, q⟩ := hs
      exact fin (v := V.non) (u := Value.none) J rfl q
    | brk =>
      obtain ⟨_, _, _, q⟩ := hs
      exact False.elim q
    | cont =>
      obtain ⟨_, _, _, q⟩ := hs
      exact False.elim q
  let N1 : Ends := { ND with nx := fun σ1 H1 => ∃ e1 m1 T1, H1 = T1.H ∧ Stp T T1 ∧ Sta K T1 m1 ∧ RelE K T1 e1 σ1 ∧ PostS K T1 (v e1 m1) ND (Fly (cxS (L2.CX P w) P w K mg base N qual scope f (.ref cda) cc A outer s T.H E)) }
  have p1 : PostS K T (u (env0 N.length ds) m) N1 (Fly (cxS (L2.CX P w) P w K mg base N qual scope f (.ref cda) cc A outer s T.H E)) := by
    unfold dSeq at pS
    cases q : u (env0 N.length ds) m with
    | nx e1 m1 =>
      rw [q] at pS
      exact fun σ1 T1 st1 sa1 re1 => ⟨e1, m1, T1, rfl, st1, sa1, re1, PostS.step st1 pS⟩
    | stuck => rw [q] at pS; exact pS
    | rt d m1 => rw [q] at pS; exact pS
    | bk e1 m1 => rw [q] at pS; exact pS
    | ct e1 m1 => rw [q] at pS; exact pS
    | exc C fs e1 m1 => rw [q] at pS; exact pS
  refine ks_wpAt_execs_cons (ks_wpAt_mono (h1 T (env0 N.length ds) m (L2.start N vs) N1 sa (relE_start rd) p1 [] _ I) (fun fl s' hs => ?_) fun e s' hs => hs)
  cases fl with
  | next =>
    obtain ⟨σ', H', J, e1, m1, T1, rfl, st1, sa1, re1, q⟩ := hs
    exact wpAt_of_wpAny (wpAny_mono (h2 T1 e1 m1 σ' ND sa1 re1 q [] s' J) (fun fl s'' hs => endF fl s'' hs) fun e s'' hs => hs)
  | ret u' => exact endF (.ret u') s' hs
  | brk => exact endF .brk s' hs
  | cont => exact endF .cont s' hs
end
end DL

set_option maxHeartbeats 4000000
namespace DL
open PySem PySem.Spec PyProof.Rows L2
variable [LamTab]
open PySem.W (excTail_contains)
section
variable {K : PySem.W.Frag} {T Z : Wd}
mutual
theorem Rep.low {i l : List Addr} {F : Hp} (hl : l <+: i) : ∀ {d : D} {v : V}, Rep K i F d v → below l.length d = true → Rep K l F d v
  | _, _, .non, _ => .non
  | _, _, .bl b, _ => .bl b
  | _, _, .int i, _ => .int i
  | _, _, .str x, _ => .str x
  | _, _, .tup h r, hb => .tup h (Reps.low hl r (by unfold below at hb; exact hb))
  | _, _, .lst h r, hb => .lst h (Reps.low hl r (by unfold below at hb; exact hb))
  | _, _, .obj h n r, hb => .obj h n (Reps.low hl r (by unfold below at hb; exact hb))
  | _, _, .loc (n := k) h, hb => .loc (by
      unfold below at hb
      have hk : k < l.length := of_decide_eq_true hb
      obtain ⟨t, e⟩ := hl
      rw [← e, List.getElem?_append_left hk] at h
      exact h)
  | _, _, .val v, _ => .val v
  | _, _, .xob h n r, hb => by simp [below] at hb
  | _, _, .lam h, hb => by simp [below] at hb
  | _, _, .clo h h2 r, hb => by simp [below] at hb
theorem Reps.low {i l : List Addr} {F : Hp} (hl : l <+: i) : ∀ {d : List D} {v : List V}, Reps K i F d v → belows l.length d = true → Reps K l F d v
  | _, _, .nil, _ => .nil
  | _, _, .cons h r, hb => by
    unfold belows at hb
    obtain ⟨h1, h2⟩ := Bool.and_eq_true_iff.mp hb
    exact .cons (Rep.low hl h h1) (Reps.low hl r h2)
end
theorem drop_ok {m m2 : Mu} {H' : Hp} (saT : Sta K T m) (st : Stp T Z) (sa : Sta K Z m2) (hm : m2.take m.length = m) (hb : Cl m) (hH : ∀ b, b ∉ Z.i ∨ b ∈ T.i → H' b = Z.H b) (ho : ∀ b, H' b = none → T.H b = none) : Stp T ⟨T.i, Z.F, H'⟩ ∧ Sta K ⟨T.i, Z.F, H'⟩ m := by
  have hpre := st.pre
  have sub : ∀ a, a ∈ T.i → a ∈ Z.i := fun a h => hpre.subset h
  have hF : ∀ a o, Z.F a = some o → a ∉ Z.i := fun a o e hz => by rw [sa.dis a hz] at e; cases e
  refine ⟨⟨List.prefix_refl _, st.ext, fun a o hn h1 h2 h3 => ?_, ho⟩, saT.nd, saT.len, fun a o e => ?_, fun a ha => sa.dis a (sub a ha), fun a ha => ?_, fun n a o h1 h2 => ?_, fun q hq => ?_⟩
  · obtain ⟨k1, k2, k3⟩ := st.frame a o hn h1 h2 h3
    exact ⟨(hH a (.inl k3)).trans k1, k2, h3⟩
  · have e : Z.F a = some o := e
    exact (hH a (.inl (hF a o e))).trans (sa.sub a o e)
  · obtain ⟨o, e⟩ := sa.tr a (sub a ha)
    exact ⟨o, (hH a (.inr ha)).trans e⟩
  · have h1 : T.i[n]? = some a := h1
    have h1' := pre_get hpre h1
    have hn : n < m.length := by rw [← saT.len]; exact (List.getElem?_eq_some_iff.mp h1).1
    have h2' : m2[n]? = some o := by
      rw [← hm, List.getElem?_take_of_lt hn] at h2; exact h2
    have hbo := hb o (List.mem_of_getElem? h2)
    rw [← saT.len] at hbo
    have q := sa.ok n a o h1' h2'
    have eH : H' a = Z.H a := hH a (.inr (List.mem_of_getElem? h1))
    cases o with
    | lst ds => obtain ⟨xs, q1, q2⟩ := q; exact ⟨xs, eH.trans q1, q2.low hpre hbo⟩
    | ins C fs => obtain ⟨dx, vs, q1, q2⟩ := q; exact ⟨dx, vs, eH.trans q1, RepF.join q2.split.1 (q2.split.2.low hpre hbo)⟩
    | exo C d =>
      cases d with
      | none => exact (show H' a = _ from eH.trans q)
      | some k =>
        obtain ⟨dx, q1, q2⟩ := q
        have hk : k < T.i.length := of_decide_eq_true hbo
        refine ⟨dx, ?_, eH.trans q2⟩
        obtain ⟨t, ht⟩ := hpre
        have q1' := q1
        rw [← ht, List.getElem?_append_left hk] at q1'
        exact q1'
    | exd fs => obtain ⟨vs, q1, q2⟩ := q; exact ⟨vs, eH.trans q1, RepF.join q2.split.1 (q2.split.2.low hpre hbo)⟩
    | dik kvs => obtain ⟨vs, q1, q0, q2⟩ := q; exact ⟨vs, eH.trans q1, q0, q2.low hpre hbo⟩
    | dit kvs => obtain ⟨vs, q1, q0, q2⟩ := q; exact ⟨vs, eH.trans q1, q0, q2.low hpre hbo⟩
  · obtain ⟨ps, t1, t2, t3, t4, t5⟩ := sa.tb q hq
    exact ⟨ps, (hH q.1 (.inl t3)).trans t1, t2, fun z => t3 (sub _ z), t4, t5⟩
end
structure XT (P : Program) (w : World) (K : PySem.W.Frag) (mg : Str → Option Value) (base : Heap) (k : Nat) (x : Str) (C : Addr) (G : DFn) : Prop where
  mgx : mg x = some (.ref C)
  oex : OexG K C
  ex : ∃ (f : Addr) (fd : FuncData) (ps : List Str) (dds : List D) (G0 : DFn), PySem.W.findIn K (.ref C) "__init__" = some (some (.ref f)) ∧ PySem.W.typeIn K (.ref f) = some (.type "function") ∧ FnD P w K mg base k f fd ps G0 ∧ Bd K fd ps dds ∧ G = padF ps.length dds G0
open Classical in
noncomputable def mkExc (C : Addr) (m : Mu) (e : En) (r : Res D) : RS := match r with
  | .ok .non m2 => match m2[m.length]? with
    | some (.exo C' (some k)) => match m2[k]? with
      | some (.exd fs) => if C' = C ∧ m.length ≤ k ∧ m2.take m.length = m ∧ Cl m ∧ belows m.length (fs.map (·.2)) = true then .exc C fs e m else .stuck
      | _ => .stuck
    | _ => .stuck
  | .exc C' fs m2 => .exc C' fs e m2
  | _ => .stuck
noncomputable def dRaise (C : Addr) (G : DFn) (t : DA) : DS := fun e m => match t e m with
  | .stuck => .stuck
  | .exc C' fs m1 => .exc C' fs e m1
  | .ok ds m1 => if ds.length ≤ 1000 then mkExc C m1 e (G (.loc m1.length :: ds) (m1 ++ [.exo C none])) else .stuck
@[simp ↓] theorem dRaise_ap (C : Addr) (G : DFn) (t : DA) (e : En) (m : Mu) : dRaise C G t e m = match t e m with
  | .stuck => .stuck
  | .exc C' fs m1 => .exc C' fs e m1
  | .ok ds m1 => if ds.length ≤ 1000 then mkExc C m1 e (G (.loc m1.length :: ds) (m1 ++ [.exo C none])) else .stuck := rfl
section
variable {X : Cx} {e o : Expr} {es : List Expr} {t : DA} {pos p : Pos} {x : Str} {k : Nat} {C : Addr} {G : DFn}
theorem exd_tblne {dx : Addr} {fs : List (Str × V)} (ps : Array Value) : exd dx fs ≠ .tbl ps := fun z => by
  unfold exd at z
  cases z
theorem run_exc {pins : List (Addr × Obj)} {σ : L2.St} {T : Wd} {m : Mu} {r0 : En} {s : Shared} {us : List Value} {vs : List V} {das : List D} {N : Ends} (F : XT X.prog X.w X.K X.mg X.base k x C G) (hr : Room (k + 1) X.A)
    (I : Inv X pins σ T.H s) (sa : Sta X.K T m) (re : RelE X.K T r0 σ) (r : Reps X.K T.i T.F das vs) (rv : Vals vs us) (hz : das.length ≤ 1000) (h : PostS X.K T (mkExc C m r0 (G (.loc m.length :: das) (m ++ [.exo C none]))) N (Fly X)) :
    wpAny (model X.prog X.w) X.A (call (.ref C) us) (MkP X pins σ fun cls d H' => Fly X cls d σ H') X.xe s := by
  obtain ⟨f, fd, ps, dds, G0, iC, tI, hf, hb, rfl⟩ := F.ex
  obtain ⟨dsv, dvs, hb1, hd1, hD⟩ := hb.ex
  obtain ⟨B, newId, initId, tl, nm, Nn, q, bs, bm, sn, sub, ab, col, dd, k0, k1, k2, k3, k5, xb, hC, hbm⟩ := F.oex.cls
  unfold padF at h
  have hcons : D.loc m.length :: das ++ dds = D.loc m.length :: (das ++ dds) := rfl
  rw [hcons] at h
  split at h
  · rename_i hl
    obtain ⟨hp, g, dr, tk, os⟩ := s
    have hsz : hp.objs.size ≤ hp.objs.size + 1 := Nat.le_succ _
    have hn : T.H (hp.objs.size + 1) = none := I.hok.fresh hsz
    have kk : ∀ b o, hp.get? b = some o → ((hp.push (PySem.W.kdv_tup us)).push (PySem.HandSPX.excO C hp.objs.size)).get? b = some o := fun b o e => Heap.get?_push_of_some _ (Heap.get?_push_of_some _ e)
    have hget : ((hp.push (PySem.W.kdv_tup us)).push (PySem.HandSPX.excO C hp.objs.size)).get? (hp.objs.size + 1) = some (PySem.HandSPX.excO C hp.objs.size) := by heap_get
    have I2 : Inv X pins σ (upd T.H (hp.objs.size + 1) (exo (hp.objs.size + 1) C none)) ⟨(hp.push (PySem.W.kdv_tup us)).push (PySem.HandSPX.excO C hp.objs.size), g, dr, tk, os⟩ :=
      I.laid (t' := tk) (a := hp.objs.size + 1) (o := exo (hp.objs.size + 1) C none) (h' := (hp.push (PySem.W.kdv_tup us)).push (PySem.HandSPX.excO C hp.objs.size)) kk hsz (exo_ok hget)
    have st2 := Stp.tok sa (o := exo (hp.objs.size + 1) C none) hn
    have sa2 := sa.tok (o := exo (hp.objs.size + 1) C none) hn (q := .exo C none) upd_same
    have hloc : (T.tok (hp.objs.size + 1) (exo (hp.objs.size + 1) C none)).i[m.length]? = some (hp.objs.size + 1) := by
      show (T.i ++ [hp.objs.size + 1])[m.length]? = _
      rw [← sa.len, List.getElem?_append_right (Nat.le_refl _), Nat.sub_self]; rfl
    have r1 : Reps X.K (T.tok (hp.objs.size + 1) (exo (hp.objs.size + 1) C none)).i (T.tok (hp.objs.size + 1) (exo (hp.objs.size + 1) C none)).F (.loc m.length :: (das ++ dds)) (V.ref (hp.objs.size + 1) :: (vs ++ dvs)) := .cons (.loc hloc) ((r.stp st2).append (hD _ _))
    have r2 : Vals (V.ref (hp.objs.size + 1) :: (vs ++ dvs)) (Value.ref (hp.objs.size + 1) :: (us ++ dsv)) := .cons rfl (rv.append hd1)
    have hlv : (V.ref (hp.objs.size + 1) :: (vs ++ dvs)).length = ps.length := by rw [← r1.len]; exact hl
    have hl2 : (Value.ref (hp.objs.size + 1) :: us ++ dsv).length = ps.length := by
      have e := r2.length
      rw [hlv] at e
      exact e.symm
    by_cases hus : us.length ≤ sizeLine
    · generalize hT2 : T.tok (hp.objs.size + 1) (exo (hp.objs.size + 1) C none) = T2 at st2 sa2 hloc r1
      have hH2 : T2.H = upd T.H (hp.objs.size + 1) (exo (hp.objs.size + 1) C none) := by rw [← hT2]; rfl
      rw [← hH2] at I2
      have hsp : spD X.K ps.length G0 (V.ref (hp.objs.size + 1) :: (vs ++ dvs)) T2.H (fun v H2 => v = .non ∧ ∃ (d : Addr) (fs : List (Str × V)), H2 (hp.objs.size + 1) = some (exo (hp.objs.size + 1) C (some d)) ∧ H2 d = some (exd d fs) ∧ (T.H d = none ∨ ∃ ps, T.H d = some (.tbl ps)) ∧ (T.H d = none → Fly X (.ref C) (some d) σ (upd (L2.del H2 (hp.objs.size + 1)) d (.xd fs)))) (fun c d H => Fly X c d σ H) := by
        refine ⟨hlv, T2, m ++ [.exo C none], _, rfl, sa2, r1, ?_⟩
        cases hG : G0 (D.loc m.length :: (das ++ dds)) (m ++ [.exo C none]) with
        | stuck => rw [hG] at h; exact (show False from h).elim
        | exc C' fs m2 =>
          rw [hG] at h
          exact fun dd vs' Z stZ hn saZ h1 h2 => h dd vs' σ Z (st2.trans stZ) (st2.old dd hn) saZ (re.stp (st2.trans stZ)) h1 h2
        | ok dv m2 =>
          rw [hG] at h
          intro v Z stZ saZ rdv
          unfold mkExc at h
          split at h
          · rename_i heq
            cases heq
            cases rdv
            refine ⟨rfl, ?_⟩
            split at h
            · rename_i C' kx e1
              split at h
              · rename_i fs e2
                split at h
                · rename_i hc
                  obtain ⟨rfl, hkx, htake, hcl, hbel⟩ := hc
                  have hzi := pre_get stZ.pre hloc
                  obtain ⟨dx, hkz, q1⟩ := saZ.ok _ _ _ hzi e1
                  obtain ⟨vv, q2, q3⟩ := saZ.ok _ _ _ hkz e2
                  have stTZ := st2.trans stZ
                  have notT : ∀ {n : Nat} {b : Addr}, m.length ≤ n → Z.i[n]? = some b → b ∉ T.i := fun {n b} hn hb z => by
                    obtain ⟨j, hj⟩ := List.getElem?_of_mem z
                    have hj' := pre_get stTZ.pre hj
                    obtain ⟨l1, e1⟩ := List.getElem?_eq_some_iff.mp hj'
                    obtain ⟨l2, e2⟩ := List.getElem?_eq_some_iff.mp hb
                    have := (List.getElem_inj saZ.nd).mp (e1.trans e2.symm)
                    have := (List.getElem?_eq_some_iff.mp hj).1
                    rw [sa.len] at this
                    omega
                  have nT1 := notT (Nat.le_refl _) hzi
                  have nT2 := notT hkx hkz
                  have mZ1 := List.mem_of_getElem? hzi
                  have mZ2 := List.mem_of_getElem? hkz
                  refine ⟨dx, vv, q1, q2, ?_, ?_⟩
                  · cases eT : T.H dx with
                    | none => exact .inl rfl
                    | some o =>
                      by_cases ht : ∃ ps, o = .tbl ps
                      · obtain ⟨ps', rfl⟩ := ht
                        exact .inr ⟨ps', rfl⟩
                      · have hno : ∀ ps, o ≠ .tbl ps := fun ps z => ht ⟨ps, z⟩
                        cases eF : T.F dx with
                        | some o' =>
                          have := saZ.dis dx mZ2
                          rw [stTZ.ext _ _ eF] at this
                          cases this
                        | none => exact absurd mZ2 (stTZ.frame dx o hno eT eF nT2).2.2
                  · have hH : ∀ b, b ∉ Z.i ∨ b ∈ T.i → upd (L2.del Z.H (hp.objs.size + 1)) dx (.xd vv) b = Z.H b := fun b hb => by
                      have n1 : b ≠ dx := fun z => by
                        subst z
                        exact hb.elim (fun z => z mZ2) nT2
                      have n2 : b ≠ hp.objs.size + 1 := fun z => by
                        rw [z] at hb
                        exact hb.elim (fun z => z mZ1) nT1
                      rw [upd_ne n1, L2.del_ne n2]
                    obtain ⟨c1, c2⟩ := drop_ok sa stTZ saZ htake hcl hH (fun b hb => by
                      have hb := upd_none hb
                      by_cases e : b = hp.objs.size + 1
                      · rw [e]; exact hn
                      · rw [L2.del_ne e] at hb; exact stTZ.old b hb)
                    intro hdT
                    have hbel' : belows T.i.length (fs.map (·.2)) = true := by rw [sa.len]; exact hbel
                    exact h dx vv σ ⟨T.i, Z.F, upd (L2.del Z.H (hp.objs.size + 1)) dx (.xd vv)⟩ c1 hdT c2 (re.stp c1) upd_same (RepF.join q3.split.1 (q3.split.2.low stTZ.pre hbel'))
                · exact h.elim
              · exact h.elim
            · exact h.elim
          · rename_i heq; cases heq
          · exact h.elim
      refine wpAny_call (PySem.HandSPX.call_own xb.F (fun Y => excTail_contains Y bm hbm) (I.kIn _ _ hC) (PySem.W.looks_findIn I.kIn iC) (fun self => PySem.W.bind_fn I.kIn self tI) hus
        (codeAny_mono (hf.run _ X.stack _ _ ⟨Value.ref (hp.objs.size + 1) :: us, []⟩ (Value.ref (hp.objs.size + 1) :: (us ++ dsv)) _ _ (fun c d H => Fly X c d σ H) (hr.make C us []) (I2.env0.make C us []) (hb1 _ (Value.ref (hp.objs.size + 1) :: us) I2.kIn hl2) r2 hsp) fun rr s' hq' => ?_))
      cases rr with
      | error er =>
        obtain ⟨a, B, sI, pins', σ', H', cls, d, e1, I', nb, up, sky, na, os, ag, e2, fl⟩ := XE.of_call I2 (W := fun c d σ' H => σ' = σ ∧ Fly X c d σ H) (fun cls d H' h => ⟨rfl, h⟩) hq'
        exact fl er s' ⟨a, B, sI, pins', σ', H', cls, d, e1, I', nb, up, sky, na, os, ag, rfl, rfl, e2, rfl⟩
      | ok fl =>
        cases fl with
        | ret u =>
          obtain ⟨v, H2, os2, bare2, un2, hok2, rv2, ev, d, fs, ea, ed, hd1, q2⟩ := hq'
          subst ev
          obtain ⟨h2, g2, d2, t2, os'⟩ := s'
          have nda : d ≠ hp.objs.size + 1 := fun z => by
            obtain ⟨t1, z1⟩ := exo_at hok2 ea
            obtain ⟨mA, ⟨o, es, ep, z2, z3, _⟩, _⟩ := exd_at hok2 ed
            rw [z, z1] at z2
            cases z2
            cases z3
          have hdn : T.H d = none := by
            rcases hd1 with z | ⟨ps', z⟩
            · exact z
            · have : T2.H d = some (.tbl ps') := by rw [hH2, upd_ne nda]; exact z
              obtain ⟨more, y⟩ := un2.tbls d ps' this
              rw [ed] at y
              exact absurd (Option.some.inj y) (exd_tblne _)
          rw [hH2] at un2
          exact ⟨rv2, mk_end (raises_own F.oex.exC F.oex.tyC) I hsz kk un2 hok2 os2 bare2 ea ed hdn (q2 hdn)⟩
        | next => exact False.elim hq'
        | brk => exact False.elim hq'
        | cont => exact False.elim hq'
    · exfalso
      exact hus (by rw [← rv.length, ← r.len, sizeLine_eq]; omega)
  · exact (show False from h).elim
def WMk (X : Cx) (e : Expr) : L2.St → Hp → XK → Prop := fun σ H Q => ∀ (pins : List (Addr × Obj)) (s : Shared), Inv X pins σ H s → wpAny (model X.prog X.w) X.A (eval e X.env) (MkP X pins σ Q) X.xe s
theorem mxMk (X : Cx) (e : Expr) : PMk X e (WMk X e) := fun pins s σ H Q I h => h pins s I
theorem pds_raise {rpos : Pos} (F : XT X.prog X.w X.K X.mg X.base k x C G) (hr : Room (k + 1) X.A) (hc : X.calm = true) (ha : PDA X (e :: es) t)
    (hg : Gl X x := by rfl) (hdb : (x == ("__debug__" : Str)) = false := by decide) (he : starEach (e :: es) X.env = (false, eval e X.env) :: starEach es X.env := by exact se_cons _ _ _ rfl) (hpl : (backTo pos (starEach es X.env)).any (·.1) = false := by exact se_any _ _ _ rfl) :
    PDS X (.Raise (some (.Call (.Name x p) (e :: es) [] pos)) none rpos) (dRaise C G t) := by
  refine ps_of (ps_raise hc (takesFly X) (mxMk X _)) fun S r m σ N sa re p pins s I => ?_
  refine wpAny_Call_Name_kw (ld_glob I hg F.mgx ?_ hdb)
  have p1 : PostL X.K S (t r m) (fun xs H => ∃ ds m1 T, H = T.H ∧ Stp S T ∧ Sta X.K T m1 ∧ Reps X.K T.i T.F ds xs ∧ PostS X.K T (if ds.length ≤ 1000 then mkExc C m1 r (G (.loc m1.length :: ds) (m1 ++ [.exo C none])) else .stuck) N (Fly X)) (fun c d H => Fly X c d σ H) := by
    unfold dRaise at p
    cases q : t r m with
    | stuck => rw [q] at p; exact p
    | exc C' fs m1 => rw [q] at p; exact fun dd vs T st hn sa h1 h2 => p dd vs σ T st hn sa (re.stp st) h1 h2
    | ok ds m1 => rw [q] at p; exact fun xs T st sa rd => ⟨ds, m1, T, rfl, st, sa, rd, PostS.step st p⟩
  refine PySem.W.callWith_K (h₀ := X.base) I.ok.mod.kin F.oex.kC (thn (ha S r m σ _ sa re p1 pos pins s I) ?_) he hpl
  rintro us s1 ⟨xs, H1, I1, rv, ds, m1, T, rfl, st, sa1, rds, q1⟩
  refine ⟨I1.kIn, ?_⟩
  split at q1
  · rename_i hz
    exact run_exc F hr I1 sa1 (re.stp st) rds rv hz q1
  · exact q1.elim
end
end DL

set_option maxHeartbeats 4000000
namespace DL
open PySem PySem.Spec PyProof.Rows L2
variable [LamTab]
section
variable {X : Cx} {pins : List (Addr × Obj)} {σ : L2.St} {H : Hp} {s : Shared}
theorem _root_.L2.Inv.track {a : Addr} {o : Obj} (I : Inv X pins σ H s) (e : s.heap.get? a = some o) (hn : H a = none) (n0 : X.s_0.heap.get? a = none) (nL : a ≠ X.env.locals) (nC : ∀ y c, X.env.cells.lookup y = some c → c ≠ a) (np : ∀ p ∈ X.pn ++ pins, p.1 ≠ a) : Inv X pins σ (upd H a (pinO a o)) s := by
  have ne0 : ∀ b u, X.s_0.heap.get? b = some u → b ≠ a := fun b u q z => by rw [z, n0] at q; cases q
  refine ⟨I.ok, I.os, I.bare, ⟨I.base.keep, I.base.slot, fun b u q n hx => ?_, I.base.there, fun b xs q => ?_, fun b u v q => ?_, fun b ps q => ?_⟩, I.loc, I.cell, ?_, fun y c q => ?_, fun p hp => ?_, ?_, I.len⟩
  · rw [upd_ne (ne0 b u q)]; exact I.base.free b u q n hx
  · have z := I.base.tups b xs q; rw [upd_ne (ne_of_none z hn)]; exact z
  · have z := I.base.frzs b u v q; rw [upd_ne (ne_of_none z hn)]; exact z
  · obtain ⟨m, z⟩ := I.base.tbls b ps q; exact ⟨m, by rw [upd_ne (ne_of_none z hn)]; exact z⟩
  · rw [upd_ne (Ne.symm nL)]; exact I.free
  · rw [upd_ne (nC y c q)]; exact I.freeC y c q
  · obtain ⟨p1, p2, p3⟩ := I.pin p hp
    exact ⟨p1, by rw [upd_ne (np p hp)]; exact p2, p3⟩
  · exact I.hok.laidN (fun _ _ q => q) hn (pinO_ok e)
theorem _root_.L2.Inv.suiteQ (I : Inv X pins σ H s) (a : Addr) : Inv (X.suite a (X.pn ++ pins)) [] σ H s :=
  ⟨I.ok.suite _ _, I.os, I.bare, I.base, I.loc, I.cell, I.free, I.freeC, fun p hp => I.pin p (by rw [List.append_nil] at hp; exact hp), I.hok, I.len⟩
theorem _root_.L2.Inv.unsuiteQ {a : Addr} {pn' : List (Addr × Obj)} (I : Inv (X.suite a (X.pn ++ pins)) pn' σ H s) (ok : X.Ok) : Inv X pins σ H s :=
  ⟨ok, I.os, I.bare, I.base, I.loc, I.cell, I.free, I.freeC, fun p hp => I.pin p (List.mem_append_left _ hp), I.hok, I.len⟩
theorem flyingZ_keeps {B h h' : Heap} {l : List Env} {e : Addr} {Z : Obj → Prop} (R : PySem.HandSPX.FlyingZ B l e Z h) (k : ∀ b o, h.get? b = some o → h'.get? b = some o) : PySem.HandSPX.FlyingZ B l e Z h' := by
  obtain ⟨f1, f2, f3, oe, vs, T, oT, ts, he, hz, hd, h1, hn, hne, hT, hdT, h3⟩ := R
  exact ⟨fun b o q => k b o (f1 b o q), f2, f3.of_keeps fun b o q _ => ⟨o, k b o q, rfl⟩, oe, vs, T, oT, ts, k _ _ he, hz, hd, h1, hn, hne, k _ _ hT, hdT, h3⟩
end
def TestOk (X : Cx) (t : Expr) (cs : List Addr) : Prop := ∀ (a : Addr) (pn pins : List (Addr × Obj)) (σ : L2.St) (H : Hp) (s : Shared) (C : Addr) (Q : Bool → Shared → Prop) (E E' : Value → Shared → Prop), C ∈ cs → Inv (X.suite a pn) pins σ H s → PySem.W.Looks (model X.prog X.w) s.heap (typeOf (.ref a)) (.ref C) →
  (∀ h', (∀ b o, s.heap.get? b = some o → h'.get? b = some o) → Q true { s with heap := h' }) → wpAny (model X.prog X.w) (X.A.mark (some (.ref a))) (eval t X.env) (fun c s1 => wpAny (model X.prog X.w) (X.A.mark (some (.ref a))) (excMatches (.ref a) c) Q E s1) E' s
section
variable {X : Cx} {x y z : Str} {c c2 c3 : Addr} {cs : List Addr} {p p2 p3 tp : Pos} {kk : Nat}
theorem test_three (hm : X.mg x = some (.ref c)) (hm2 : X.mg y = some (.ref c2)) (hm3 : X.mg z = some (.ref c3)) (h : ∀ C ∈ cs, PySem.W.exmAny X.K (.ref C) [.ref c, .ref c2, .ref c3] = some true)
    (hg : Gl X x := by rfl) (hg2 : Gl X y := by rfl) (hg3 : Gl X z := by rfl) (hd : (x == ("__debug__" : Str)) = false := by decide) (hd2 : (y == ("__debug__" : Str)) = false := by decide) (hd3 : (z == ("__debug__" : Str)) = false := by decide) :
    TestOk X (.Tuple [.Name x p, .Name y p2, .Name z p3] kk tp) cs := by
  intro a pn pins σ H s C Q E E' hC I LT q
  refine wpAny_Tuple ?_
  refine wpAny_items_cons (ld_glob (X := X.suite a pn) I hg hm ?_ hd)
  refine wpAny_items_cons (ld_glob (X := X.suite a pn) I hg2 hm2 ?_ hd2)
  refine wpAny_items_cons (ld_glob (X := X.suite a pn) I hg3 hm3 ?_ hd3)
  refine wpAny_items_nil ⟨by show 3 ≤ sizeLine; rw [sizeLine_eq]; omega, ?_⟩
  have kp : ∀ q o, s.heap.get? q = some o → (s.heap.push { cls := .type "tuple", data := .seq [Value.ref c, .ref c2, .ref c3].toArray }).get? q = some o := fun _ _ z => Heap.get?_push_of_some _ z
  exact (PySem.W.exm_tup3 (I.kIn.keeps kp) (LT.keeps kp) (Heap.get?_push_size s.heap rfl) (h C hC)).here (q _ kp)
end
def dTryAs (cs : List Addr) (i : Nat) (body suite : DS) : DS := fun e m => match body e m with
  | .exc C fs e1 m1 => if C ∈ cs then match suite (e1.set i (some (.xob ⟨C, fs.map (·.1)⟩ (fs.map (·.2))))) m1 with
      | .nx e2 m2 => .nx (e2.set i none) m2
      | .rt d m2 => .rt d m2
      | _ => .stuck
    else .stuck
  | .stuck => .stuck
  | .nx e1 m1 => .nx e1 m1
  | .rt d m1 => .rt d m1
  | .bk e1 m1 => .bk e1 m1
  | .ct e1 m1 => .ct e1 m1
def dTry (cs : List Addr) (body suite : DS) : DS := fun e m => match body e m with
  | .exc C fs e1 m1 => if C ∈ cs then match suite e1 m1 with
      | .nx e2 m2 => .nx e2 m2
      | .rt d m2 => .rt d m2
      | _ => .stuck
    else .stuck
  | .stuck => .stuck
  | .nx e1 m1 => .nx e1 m1
  | .rt d m1 => .rt d m1
  | .bk e1 m1 => .bk e1 m1
  | .ct e1 m1 => .ct e1 m1
@[simp ↓] theorem dTryAs_ap (cs : List Addr) (i : Nat) (body suite : DS) (e : En) (m : Mu) : dTryAs cs i body suite e m = match body e m with
  | .exc C fs e1 m1 => if C ∈ cs then match suite (e1.set i (some (.xob ⟨C, fs.map (·.1)⟩ (fs.map (·.2))))) m1 with
      | .nx e2 m2 => .nx (e2.set i none) m2
      | .rt d m2 => .rt d m2
      | _ => .stuck
    else .stuck
  | .stuck => .stuck
  | .nx e1 m1 => .nx e1 m1
  | .rt d m1 => .rt d m1
  | .bk e1 m1 => .bk e1 m1
  | .ct e1 m1 => .ct e1 m1 := rfl
@[simp ↓] theorem dTry_ap (cs : List Addr) (body suite : DS) (e : En) (m : Mu) : dTry cs body suite e m = match body e m with
  | .exc C fs e1 m1 => if C ∈ cs then match suite e1 m1 with
      | .nx e2 m2 => .nx e2 m2
      | .rt d m2 => .rt d m2
      | _ => .stuck
    else .stuck
  | .stuck => .stuck
  | .nx e1 m1 => .nx e1 m1
  | .rt d m1 => .rt d m1
  | .bk e1 m1 => .bk e1 m1
  | .ct e1 m1 => .ct e1 m1 := rfl
section
variable {X : Cx} {n : Str} {i : Nat} {cs : List Addr} {body suite : List Stmt} {b₀ : Stmt} {t : Expr} {pos pos' : Pos} {tb ts : DS}
theorem suite_wd {K : PySem.W.Frag} {S T : Wd} {m : Mu} {a dd C : Addr} {oe : Obj} {vs : List (Str × V)} {w : Array Value} (st : Stp S T) (hS : S.H dd = none) (sa : Sta K T m) (na : T.H a = none) (hz : Zc (.ref C) (some dd) oe) (hw : oe.data = .fields w) (hd : T.H dd = some (.xd vs)) :
    ∃ T2 : Wd, T2.H = upd T.H a (pinO a oe) ∧ Stp S T2 ∧ Ext T.F T2.F ∧ T2.i = T.i ∧ Sta K T2 m ∧ XobAt T2.F C a vs := by
  have st1 := Stp.new sa (o := pinO a oe) na
  have sa1 := sa.new (o := pinO a oe) na
  have nda : dd ≠ a := fun z => by rw [z, na] at hd; cases hd
  have hd1 : (T.new a (pinO a oe)).H dd = some (.xd vs) := by show upd T.H a _ dd = _; rw [upd_ne nda]; exact hd
  cases hF : (T.new a (pinO a oe)).F dd with
  | some o =>
    have := sa1.sub _ _ hF
    rw [hd1] at this
    cases this
    exact ⟨_, rfl, st.trans st1, st1.ext, rfl, sa1, oe, dd, upd_same, hz.1, hz.2, ⟨w, hw⟩, hF⟩
  | none =>
    have hi : dd ∉ (T.new a (pinO a oe)).i := fun h => by
      obtain ⟨n, hn⟩ := List.getElem?_of_mem h
      have hl : n < m.length := by rw [← sa1.len]; exact (List.getElem?_eq_some_iff.mp hn).1
      have q := sa1.ok n dd _ hn (List.getElem?_eq_getElem hl)
      cases e : m[n] with
      | lst ds => rw [e] at q; obtain ⟨xs, q1, _⟩ := q; rw [hd1] at q1; cases q1
      | ins C fs => rw [e] at q; obtain ⟨dx, vs, q1, _⟩ := q; rw [hd1] at q1; cases q1
      | exo C d =>
        rw [e] at q
        cases d with
        | none => rw [show (T.new a (pinO a oe)).H dd = _ from q] at hd1; unfold exo at hd1; cases hd1
        | some k => obtain ⟨dx, _, q1⟩ := q; rw [q1] at hd1; unfold exo at hd1; cases hd1
      | exd fs => rw [e] at q; obtain ⟨vs, q1, _⟩ := q; rw [q1] at hd1; unfold exd at hd1; cases hd1
      | dik kvs => rw [e] at q; obtain ⟨vs, q1, _⟩ := q; rw [hd1] at q1; cases q1
      | dit kvs => rw [e] at q; obtain ⟨vs, q1, _⟩ := q; rw [hd1] at q1; cases q1
    have sa2 := sa1.keep hd1 hF hi (fun ps => nofun)
    have st2 := (st.trans st1).kept (o := .xd vs) hS hF
    exact ⟨_, rfl, st2, st1.ext.trans (Ext.updNew hF), rfl, sa2, oe, dd, by show upd (upd T.F a _) dd _ a = _; rw [upd_ne (Ne.symm nda), upd_same], hz.1, hz.2, ⟨w, hw⟩, upd_same⟩
theorem Rep.ofXob {K : PySem.W.Frag} {i : List Addr} {F : Hp} {C a : Addr} {fs : List (Str × D)} {vs : List (Str × V)} (h : XobAt F C a vs) (r : RepF K i F fs vs) : Rep K i F (.xob ⟨C, fs.map (·.1)⟩ (fs.map (·.2))) (.ref a) :=
  .xob h r.split.1 r.split.2
theorem pds_tryAs (hs : X.stack = X.env :: X.outer) (hf : X.env.frame = some X.env.locals) (hN : X.N.Nodup) (hi : X.N[i]? = some n) (hln : X.env.kindOf n = some .local) (hex : X.ex = []) (ht : TestOk X t cs) (hb : ∀ pn xe, PDSs (X.tr pn xe) body tb) (hsu : ∀ a pn, PDSs (X.suite a pn) (b₀ :: suite) ts) :
    PDS X (.Try body [.ExceptHandler (some t) (some n) (b₀ :: suite) pos'] [] [] pos) (dTryAs cs i tb ts) := by
  intro S r m σ N sa re p pins s I
  have ok := I.ok
  have hfr : X.A.frames = some (X.env :: X.outer) := by rw [ok.frames, hs]
  have hloc : Loc X.env.scope n := .inl hln
  refine wpAny_Try_except ?_
  refine wpAny_mono (hb (X.pn ++ pins) (fun e s₁ => wpAny (model X.prog X.w) X.A (noteFrame e X.env) (fun _ s₂ => wpAny (model X.prog X.w) X.A (setFlight e none) (fun _ s₃ =>
    wpAny (model X.prog X.w) X.A (handleBy e X.env [.ExceptHandler (some t) (some n) (b₀ :: suite) pos']) (SP X pins N) X.xe s₃) X.xe s₂) X.xe s₁) S r m σ N sa re ?_ [] s (I.toTry _)) (fun f s1 hsp => ?_) (fun e s1 he => he)
  · unfold dTryAs at p
    cases q : tb r m with
    | stuck => rw [q] at p; exact p.elim
    | nx e1 m1 => rw [q] at p; exact p
    | rt d m1 => rw [q] at p; exact p
    | bk e1 m1 => rw [q] at p; exact p
    | ct e1 m1 => rw [q] at p; exact p
    | exc C fs e1 m1 =>
      rw [q] at p
      dsimp only at p
      split at p
      · rename_i hC
        intro dd vs σT T stT hS saT reT hdd rf u s' xx
        obtain ⟨a, B, sI, pins', σ', H', cls, d, rfl, J', nb, up, sky, na, os, ag, z1, z2, z3, z4⟩ := xx
        subst z1 z2 z3 z4
        have J : Inv X pins σ' T.H sI := J'.ofTry ok
        have sky' : Sky B (X.env :: X.outer) a (Zc (.ref C) (some dd)) X.env.locals s'.heap := by rw [← hs]; exact sky
        show wpAny (model X.prog X.w) X.A (noteFrame (.ref a) X.env) _ _ _
        refine Sky.land Zc.steady hfr hf sky' fun h3 fl3 up3 => ?_
        have J3 : Inv X pins σ' T.H { s' with heap := h3 } := J.landed nb fl3.1 (up.trans up3) os ag
        obtain ⟨oe3, vs3, he3, hz3, hd3⟩ := fl3.there
        have notFr : ∀ {h : Heap} {o : Obj} {vs : Array Value}, h.FunFrames B (X.env :: X.outer) → h.get? a = some o → o.data = .fields vs → a ∉ frs (X.env :: X.outer) := fun {h o vs} ff e dd hm => by
          obtain ⟨_, o', e', hnf⟩ := ff.mem hm
          rw [e] at e'; cases e'
          exact hnf _ dd
        have nfr := notFr fl3.2.2.1 he3 hd3
        have nL : a ≠ X.env.locals := fun z => nfr (List.mem_filterMap.mpr ⟨X.env, List.mem_cons_self, by rw [hf, z]⟩)
        have S3 := J3.suiteQ a
        have LT : PySem.W.Looks (model X.prog X.w) h3 (typeOf (.ref a)) (.ref C) := fun A Q E s k q => wpAny_typeOf_ref (k _ _ he3) (by rw [hz3.1]; exact q)
        refine wpAny_handleBy_cons (codeAny_handlers_test (ht a _ [] σ' T.H _ C _ _ _ hC S3 LT fun h3' kk => ?_)) (by intro q; cases q)
        show codeAny _ _ _ _ _
        refine codeAny_handlers_suite_as ?_
        have fl3' := flyingZ_keeps fl3 kk
        refine PySem.HandSPX.lands_againZ fl3' fun h4 fl4 up4 => ?_
        have up34 : sI.heap.UpToSlots h4 := ((up.trans up3).trans (Heap.UpToSlots.of_keeps kk)).trans up4
        have J4 : Inv X pins σ' T.H { s' with heap := h4 } := J.landed nb fl4.1 up34 os ag
        obtain ⟨oe4, vs4, he4, hz4, hd4⟩ := fl4.there
        have n0 : X.s_0.heap.get? a = none := by
          cases e : X.s_0.heap.get? a with
          | none => rfl
          | some o =>
            obtain ⟨o', e'⟩ := J.base.there a o e (by rw [hex]; simp)
            have z := nb a o' e' (by rw [hs]; exact nfr)
            rw [fl3.2.1] at z
            cases z
        have nC : ∀ y c, X.env.cells.lookup y = some c → c ≠ a := fun y c e z => by
          obtain ⟨v, o, ho, hdc⟩ := J.cell y c e
          obtain ⟨sl, k⟩ := up34 c o ho (fun vs z => by rw [hdc] at z; cases z)
          rw [z, he4] at k
          cases k
          rw [hd4] at hdc
          cases hdc
        have np : ∀ p ∈ X.pn ++ pins, p.1 ≠ a := fun p hp z => by
          obtain ⟨e, _, e3, e4, _⟩ := J.pin p hp
          have nf : p.1 ∉ frs X.stack := by
            rw [hs]
            intro hm
            obtain ⟨en, hen, q⟩ := List.mem_filterMap.mp hm
            rcases List.mem_cons.mp hen with h | h
            · rw [h, hf] at q
              exact e3 (Option.some.inj q).symm
            · exact e4 (List.mem_filterMap.mpr ⟨en, h, q⟩)
          have z2 := nb _ _ e nf
          rw [z, fl3.2.1] at z2
          cases z2
        have J5 : Inv X pins σ' (upd T.H a (pinO a oe4)) { s' with heap := h4 } := Inv.track J4 he4 na n0 nL nC np
        obtain ⟨T2, hT2, stT2, exT2, hiT2, saT2, xobT2⟩ := suite_wd (K := X.K) stT hS saT na hz4 hd4 hdd
        rw [← hT2] at J5
        have S5 := J5.suiteQ a
        refine store_ok (X := X.suite a (X.pn ++ pins)) (v := .ref a) S5 hN hi hloc rfl (fun s5 S5 => ?_) (.inr hln)
        have re2 : RelE X.K T2 (e1.set i (some (.xob ⟨C, fs.map (·.1)⟩ (fs.map (·.2))))) (σ'.set i (some (.ref a))) := by
          refine RelE.set ⟨reT.1, fun j d hj => ?_⟩ i (Rep.ofXob xobT2 (by rw [hiT2]; exact rf.mono (List.prefix_refl _) exT2))
          obtain ⟨v, h1, h2⟩ := reT.2 j d hj
          exact ⟨v, h1, by rw [hiT2]; exact h2.mono (List.prefix_refl _) exT2⟩
        refine wpAny_mono (hsu a (X.pn ++ pins) T2 _ m1 _ { nx := fun σ' H' => N.nx (σ'.set i none) H', rt := N.rt, bk := fun _ _ => False, ct := fun _ _ => False } saT2 re2 ?_ [] s5 S5) (fun f s6 hsp => ?_) (fun _ _ z => False.elim z)
        · cases q2 : ts (e1.set i (some (.xob ⟨C, fs.map (·.1)⟩ (fs.map (·.2))))) m1 with
          | nx e2 m2 => rw [q2] at p; exact fun σU U stU saU reU => p _ U (stT2.trans stU) saU (reU.unset i)
          | rt d m2 => rw [q2] at p; exact fun v U stU saU rU => p v U (stT2.trans stU) saU rU
          | stuck => rw [q2] at p; exact p.elim
          | bk e2 m2 => rw [q2] at p; exact p.elim
          | ct e2 m2 => rw [q2] at p; exact p.elim
          | exc C2 f2 e2 m2 => rw [q2] at p; exact p.elim
        have end_ : ∀ {σ6 : L2.St} {H6 : Hp} {Q : Shared → Prop}, Inv (X.suite a (X.pn ++ pins)) [] σ6 H6 s6 → (∀ s7, Inv X pins (σ6.set i none) H6 s7 → Q s7) →
            wpAny (model X.prog X.w) X.A (do bindName X.env n .none; unbindBehindTheSuite X.env n pos') (fun _ s7 => Q s7) X.xe s6 := fun {σ6 H6 Q} S6 hq => gone_ok (S6.unsuiteQ ok) hN hi hln hq
        cases f with
        | next =>
          obtain ⟨σ6, H6, S6, q6⟩ := hsp
          exact end_ S6 fun s7 J7 => ⟨_, _, J7, q6⟩
        | brk =>
          obtain ⟨σ6, H6, S6, q6⟩ := hsp
          exact q6.elim
        | cont =>
          obtain ⟨σ6, H6, S6, q6⟩ := hsp
          exact q6.elim
        | ret u =>
          obtain ⟨v6, σ6, H6, S6, r6, q6⟩ := hsp
          exact end_ S6 fun s7 J7 => ⟨_, _, _, J7, r6, q6⟩
      · exact p.elim
  · cases f with
    | next =>
      obtain ⟨σ', H', J', q⟩ := hsp
      exact wpAny_execs_nil ⟨σ', H', J'.ofTry ok, q⟩
    | brk =>
      obtain ⟨σ', H', J', q⟩ := hsp
      exact ⟨σ', H', J'.ofTry ok, q⟩
    | cont =>
      obtain ⟨σ', H', J', q⟩ := hsp
      exact ⟨σ', H', J'.ofTry ok, q⟩
    | ret u =>
      obtain ⟨v, σ', H', J', r, q⟩ := hsp
      exact ⟨v, σ', H', J'.ofTry ok, r, q⟩
end
def dXf (Cs : List Addr) (f : Str) (t : DE) : DE := fun e m => (t e m).bind fun d m1 => match d with
  | .xob c ds => match (c.ns.zip ds).lookup f with
    | some v => if c.a ∈ Cs then .ok v m1 else .stuck
    | none => .stuck
  | _ => .stuck
@[simp ↓] theorem dXf_ap (Cs : List Addr) (f : Str) (t : DE) (e : En) (m : Mu) : dXf Cs f t e m = (t e m).bind fun d m1 => match d with
  | .xob c ds => match (c.ns.zip ds).lookup f with
    | some v => if c.a ∈ Cs then .ok v m1 else .stuck
    | none => .stuck
  | _ => .stuck := rfl
theorem zip_fst {α β : Type} : ∀ {l : List α} {r : List β}, l.length = r.length → (l.zip r).map (·.1) = l ∧ (l.zip r).map (·.2) = r
  | [], [], _ => ⟨rfl, rfl⟩
  | a :: l, b :: r, h => by
    obtain ⟨h1, h2⟩ := zip_fst (l := l) (r := r) (by simpa using h)
    exact ⟨by simp [h1], by simp [h2]⟩
theorem pd_xf {X : Cx} {Cs : List Addr} {f : Str} {o : Expr} {t : DE} {pos : Pos} (he : PDE X o t) (hC : ∀ C ∈ Cs, XfC X.K C ∧ PySem.W.findIn X.K (.ref C) f = some none) (hb : attributeBase o f X.env (eval o X.env) = eval o X.env := by rfl) : PDE X (.Attribute o f pos) (dXf Cs f t) := by
  intro S r m σ Q sa re q pins s I
  refine attr_of hb (thn (he.run sa re q I) ?_)
  rintro u s1 ⟨x, d, m1, T, st, sa1, rd, rx, I1, q1⟩
  split at q1
  · rename_i c ds
    split at q1
    · rename_i v hv
      split at q1
      · rename_i hc
        obtain ⟨T1, hno⟩ := hC _ hc
        cases rd with
        | @xob _ _ a vs hx hn rds =>
        obtain ⟨oe, dx, e1, e2, e3, ⟨w, e4⟩, e5⟩ := hx
        have hl : c.ns.length = ds.length := by rw [rds.len, ← hn]; simp
        obtain ⟨z1, z2⟩ := zip_fst hl
        have rf : RepF X.K T.i T.F (c.ns.zip ds) vs := RepF.join (by rw [z1]; exact hn) (by rw [z2]; exact rds)
        obtain ⟨v', l1, rv⟩ := rf.get hv
        obtain rfl : u = Value.ref a := rx
        have ha : s1.heap.get? a = some oe := (I1.hok a _ (sa1.sub _ _ e1)).1
        have hx : ObjOk X.prog X.w T.H s1.heap dx (.xd vs) := I1.hok dx _ (sa1.sub _ _ e5)
        obtain ⟨mA, hns, hr⟩ := hx
        obtain ⟨od, ho, hlk⟩ := lookIn_ns hns
        obtain ⟨u, hu, ru⟩ := RelO.some_of (v := v') (o := mA f) (by rw [← l1]; exact hr f)
        have J : PySem.W.InstAt s1.heap a oe c.a (some od) := ⟨ha, e2, by unfold PySem.W.notCls; rw [e4] <;> rfl, by rw [e3]; exact ho⟩
        exact PySem.HandSPX.exc_get I1.kIn J T1.ga T1.gg T1.exC (PySem.W.findObj_own T1.hdC hno rfl (by rw [hlk, hu])) (handed_of ru) ⟨v', _, I1.tok _, ru, Post.ok q1 (Stp.refl T) sa1 rv⟩
      · exact q1.elim
    · exact (show False from q1).elim
  · exact (show False from q1).elim
structure FnQ (P : Program) (w : World) (K : PySem.W.Frag) (mg : Str → Option Value) (base : Heap) (CX : CXT) (k : Nat) (f : Addr) (fd : FuncData) (ps : List Str) (sp : Sp) : Prop where
  run : ∀ (A : Around) (outer : List Env) (s : Shared) (H : Hp) (args : Args) (us : List Value) (vs : List V) (Q : VK) (E : XK), L2H.RoomH k A → Env0 P w K mg base A outer s H → BindsTo s fd args (ps.zip us) → Vals vs us → sp vs H Q E →
    codeAny (model P w) A (.call (.ref f) args) (CR CX outer P w H s Q E) s
def cxQ (CX : CXT) (P : Program) (w : World) (K : PySem.W.Frag) (mg : Str → Option Value) (base : Heap) (N : List Str) (qual : Str) (scope : Scope) (f : Addr) (cd : Value) (A : Around) (outer : List Env) (s : Shared) (H : Hp) (E : XK) : Cx :=
  { cxOf CX P w K mg base N qual scope f cd A outer s H E with calm := false }
section
variable {P : Program} {w : World} {K : PySem.W.Frag} {mg : Str → Option Value} {base : Heap}
theorem inv_startQ {CX : CXT} {N ps : List Str} {qual : Str} {scope : Scope} {f : Addr} {cd : Value} {A : Around} {outer : List Env} {s s1 : Shared} {H : Hp} {E : XK} {us : List Value} {vs : List V}
    (S : FnScope N ps scope) (e0 : Env0 P w K mg base A outer s H) (hl : vs.length = ps.length) (r : Vals vs us)
    (x : InCallC s s.heap.objs.size (bindL (envOfC qual scope s.heap.objs.size f cd).kindOf (ps.zip us) fun _ => none) (cellsFrom (s.heap.objs.size + 1) scope.names []) (bindC (envOfC qual scope s.heap.objs.size f cd).kindOf (ps.zip us) fun _ => none) s1) :
    Inv (cxQ CX P w K mg base N qual scope f cd A outer s H E) [] (L2.start N vs) H s1 := by
  have J := inv_start (CX := CX) (E := E) (A := { A with handled := none }) S rfl ⟨e0.frames, e0.mod, e0.bs, e0.bsz, e0.funs, e0.frf, e0.hok, e0.bare⟩ hl r x
  have o := J.ok
  exact ⟨⟨o.mod, o.kind, o.glob, o.blt, o.above, o.inj, o.has, o.cab, (fun z => Bool.noConfusion (show false = true from z)), Around.frames_deeper e0.frames, o.stk, o.exf, o.bs, o.bsz, o.noex, o.exfs, o.funs, o.frf⟩, J.os, J.bare, J.base, J.loc, J.cell, J.free, J.freeC, J.pin, J.hok, J.len⟩
abbrev FnDQ (P : Program) (w : World) (K : PySem.W.Frag) (mg : Str → Option Value) (base : Heap) (k : Nat) (f : Addr) (fd : FuncData) (ps : List Str) (F : DFn) : Prop := FnQ P w K mg base (L2.CX P w) k f fd ps (spD K ps.length F)
def noExcR (r : Res D) : Res D := match r with
  | .ok d m => .ok d m
  | _ => .stuck
theorem fnDQ_of {x qual : Str} {params : Arguments} {body : List Stmt} {scope : Scope} {dvs : List V} {kws : List (Str × V)} {f : Addr} {fd : FuncData} {N ps : List Str} {k : Nat} {t : DS} (F : FunD K x qual params body scope dvs kws f fd) (S : FnScope N ps scope)
    (h : ∀ (cdv : Value) (A : Around) (outer : List Env) (s : Shared) (H : Hp) (E : XK), L2H.RoomH k (A.deeper (envOfC qual scope s.heap.objs.size f cdv)) → PDSs (cxQ (L2.CX P w) P w K mg base N qual scope f cdv A outer s H E) body t) :
    FnDQ P w K mg base (k + 1) f fd ps fun ds m => noExcR (dFn N.length t ds m) := by
  obtain ⟨oc, od, dV, kV, doc, pm, an, cdv, ct, osl, rfl, lk, hcd, _, _⟩ := F.ex
  refine ⟨fun A outer s H args us vs Q E hr e0 hb r hsp => ?_⟩
  obtain ⟨hl, T, m, ds, rfl, sa, rd, p⟩ := hsp
  have KX : K.In s.heap := e0.mod.kin.keeps fun b o e => (e0.bs b o e).1
  have lim : s.heap.NoLimit := e0.mod.nolimit.keeps fun b o e => (e0.bs b o e).1
  have hkind : ∀ y ∈ ps.zip us, scope.names.lookup y.1 = some .local ∨ (scope.names.lookup y.1 = some .cell ∧ ((cellsFrom (s.heap.objs.size + 1) scope.names []).lookup y.1).isSome = true) := fun ⟨n, v⟩ hy => by
    rcases S.par n (List.of_mem_zip hy).1 with q | q
    · exact .inl q
    · exact .inr ⟨q, PySem.W.cellsFrom_some _ _ _ (.inl q)⟩
  refine codeAny_call_function hr.depth (KX _ _ lk) rfl S.co S.gen rfl (PySem.W.codeRec_of KX hcd) (hb _ _ _ _ ?_)
  refine wpAny_newFunctionEnv_cells S.kind hkind fun env he s1 x => ?_
  subst he
  refine ⟨lim.keeps x.toInCall.keep, codeAny_func ?_⟩
  have I := inv_startQ (CX := L2.CX P w) (E := E) S e0 hl r x
  refine wpAny_mono (h cdv A outer s T.H E (hr.deeper _) T (env0 N.length ds) m (L2.start N vs) { nx := fun _ H' => Q .non H', rt := Q } sa (relE_start rd) ?_ [] s1 I) (fun fl s' hs => ?_) fun e s' hs => hs
  · unfold noExcR dFn at p
    dsimp only at p
    cases q : t (env0 N.length ds) m with
    | stuck => rw [q] at p; exact p.elim
    | nx e m1 => rw [q] at p; exact fun σ U st sa1 re => p .non U st sa1 .non
    | rt d m1 => rw [q] at p; exact fun v U st sa1 r1 => p v U st sa1 r1
    | bk e m1 => rw [q] at p; exact p.elim
    | ct e m1 => rw [q] at p; exact p.elim
    | exc C fs e m1 => rw [q] at p; exact p.elim
  have fin : ∀ {σ' : L2.St} {H' : Hp} {v : V} {u : Value}, Inv (cxQ (L2.CX P w) P w K mg base N qual scope f cdv A outer s T.H E) [] σ' H' s' → L2.RelV v u → Q v H' → CE outer P w T.H s Q u s' :=
    fun {σ' H' v u} J rv q => ⟨v, H', J.os, J.bare, J.base, J.hok, rv, q⟩
  cases fl with
  | ret u =>
    obtain ⟨v, σ', H', J, rv, q⟩ := hs
    exact fin J rv q
  | next =>
    obtain ⟨σ', H', J, q⟩ := hs
    exact fin (v := V.non) (u := Value.none) J rfl q
  | brk =>
    obtain ⟨_, _, _, q⟩ := hs
    exact False.elim q
  | cont =>
    obtain ⟨_, _, _, q⟩ := hs
    exact False.elim q
structure FQ (P : Program) (w : World) (K : PySem.W.Frag) (mg : Str → Option Value) (base : Heap) (k : Nat) (x : Str) (G : DFn) : Prop where
  ex : ∃ (f : Addr) (fd : FuncData) (ps : List Str) (dds : List D) (G0 : DFn), mg x = some (.ref f) ∧ PySem.W.keepIn K (.ref f) = true ∧ FnDQ P w K mg base k f fd ps G0 ∧ Bd K fd ps dds ∧ G = padF ps.length dds G0
end
section
variable {X : Cx} {k : Nat} {G : DFn} {x : Str} {p pos : Pos} {e : Expr} {es : List Expr} {t : DA}
theorem pd_funQ (F : FQ X.prog X.w X.K X.mg X.base k x G) (hr : L2H.RoomH k X.A) (ha : PDA X (e :: es) t)
    (hg : Gl X x := by rfl) (hdb : (x == ("__debug__" : Str)) = false := by decide) (he : starEach (e :: es) X.env = (false, eval e X.env) :: starEach es X.env := by exact se_cons _ _ _ rfl) (hpl : (backTo pos (starEach es X.env)).any (·.1) = false := by exact se_any _ _ _ rfl) :
    PDE X (.Call (.Name x p) (e :: es) [] pos) (dFun G t) := by
  obtain ⟨f, fd, ps, dds, G0, hm, hk, hf, hb, rfl⟩ := F.ex
  intro S r m σ Q sa re q pins s I
  refine wpAny_Call_Name_kw (ld_glob I hg hm ?_ hdb)
  refine PySem.W.callWith_K (h₀ := X.base) I.ok.mod.kin hk (thn (ha.run sa re q I pos) ?_) he hpl
  rintro us s1 ⟨xs, das, m1, T, st, sa1, rds, rv, I1, q1⟩
  refine ⟨I1.kIn, ?_⟩
  unfold padF at q1
  split at q1
  · rename_i hl
    obtain ⟨ds, dvs, hb, hd, hD⟩ := hb.ex
    have r1 : Reps X.K T.i T.F (das ++ dds) (xs ++ dvs) := rds.append (hD _ _)
    have r2 : Vals (xs ++ dvs) (us ++ ds) := rv.append hd
    have hlv : (xs ++ dvs).length = ps.length := by rw [← r1.len]; exact hl
    have hl2 : (us ++ ds).length = ps.length := by rw [← r2.length]; exact hlv
    refine wpAny_call (codeAny_mono (hf.run X.A X.stack s1 T.H ⟨us, []⟩ (us ++ ds) (xs ++ dvs) Q (fun c d H => Fly X c d σ H) hr I1.env0 (hb s1 us I1.kIn hl2) r2 ⟨hlv, T, m1, _, rfl, sa1, r1, q1⟩) fun r s' hq => ?_)
    cases r with
    | error e =>
      obtain ⟨a, B, sI, pins', σ', H', cls, d, e1, I', nb, up, sky, na, os, ag, e2, fl⟩ := XE.of_call I1 (W := fun c d σ' H => σ' = σ ∧ Fly X c d σ H) (fun cls d H' h => ⟨rfl, h⟩) hq
      exact fl e s' ⟨a, B, sI, pins', σ', H', cls, d, e1, I', nb, up, sky, na, os, ag, rfl, rfl, e2, rfl⟩
    | ok fl =>
      cases fl with
      | ret u => exact I1.after hq
      | next => exact False.elim hq
      | brk => exact False.elim hq
      | cont => exact False.elim hq
  · exact q1.elim
end
end DL

set_option maxHeartbeats 4000000
namespace DL
open PySem PySem.Spec PyProof.Rows L2
open LamX (CodeO TabB)
abbrev lamObj (qual : Str) (params : Arguments) (body : Expr) (scope : Scope) (clos : List (Str × Addr)) (pm cv ctv dV : Value) : Obj :=
  { cls := .type "function", data := .func { name := "<lambda>", qualname := qual, params, body := .expr body, scope, globals := mainGlobals, closure := clos, defaults := dV, kwdefaults := .none, doc := .none, pyModule := pm, annotations := none, code := cv, closureTuple := ctv, builtins := builtinsNs } }
section
open PySem.W PySem.Calls
variable {M : Model} {A : Around} {E : Value → Shared → Prop} {s : Shared} {qual : Str} {params : Arguments} {body : Expr} {scope : Scope} {env : Env} {c P : Addr} {ps : Array Value} {pos : Pos} {firstLine : Nat} {mg : Str → Option Value}
  {clos : List (Str × Addr)} {Q : Value → Shared → Prop} {dV : Value}
theorem lam_tail (hcl : closureFor scope env = pure clos) (hge0 : env.globals = mainGlobals) (hg : s.heap.Ns mainGlobals mg) (hcode : env.code = .ref c) (C : CodeHd s.heap c P) (hP : s.heap.get? P = some (tabObj ps)) (ht : TriplesOk ps.toList)
    (hnf : codeAmong pos ps.toList = none) (hgP : mainGlobals ≠ P) (hb : s.heap.BuiltinsAt mg P)
    (h : ∀ c' ctv h' tk, Heap.ExtBut P s.heap h' → s.heap.objs.size ≤ c' → c' < h'.objs.size → h'.CodeRec (.ref c') qual → h'.get? P = some (tabObj (ps ++ #[rawInt pos.line, rawInt pos.col, .ref c'])) →
      Q (.ref h'.objs.size) { s with heap := h'.push (lamObj qual params body scope clos ((mg "__name__").getD .none) (.ref c') ctv dV), toks := tk }) :
    wpAny M A (makeTail "<lambda>" qual params (.expr body) scope env dV .none none pos firstLine) Q E s := by
  obtain ⟨bm, ob, hbm, hne0, _, hneP, hbo, hcls, hdict, hdata⟩ := hb
  unfold makeTail
  rw [hcl, hge0]
  refine wpAny_bind (wpAny_pure ?_)
  cases clos with
  | nil =>
    simp only [List.isEmpty_nil, if_true]
    refine wpAny_bind (wpAny_pure ?_)
    refine wpAny_bind (wpAny_functionCodeX hcode (C.code hP ht) (C.tab hP) hnf fun c' h' tk hx hge hlt _ hrec htb _ => ?_)
    have hg' := hg.extBut hx hgP
    refine wpAny_bind (wpAny_builtinsFor hg' hbm hne0 (hx _ _ hneP hbo) hcls hdict hdata ?_)
    refine wpAny_bind (wpAny_nsGet hg' ?_)
    exact wpAny_bind (wpAny_pure (wpAny_newObj_type (h c' .none h' tk hx hge hlt hrec htb.2) (by size_fits)))
  | cons q r =>
    simp only [List.isEmpty_cons, Bool.false_eq_true, if_false]
    refine wpAny_bind (wpAny_newTextTuple ?_)
    refine wpAny_bind (wpAny_functionCodeX hcode ((C.keeps fun b o e => Heap.get?_push_of_some _ e).code (Heap.get?_push_of_some _ hP) ht) ((C.keeps fun b o e => Heap.get?_push_of_some _ e).tab (Heap.get?_push_of_some _ hP)) hnf fun c' h' tk hx hge hlt _ hrec htb _ => ?_)
    have hg' := (hg.push _).extBut hx hgP
    have hx' : Heap.ExtBut P s.heap h' := fun b o hb' e => hx b o hb' (Heap.get?_push_of_some _ e)
    have hge' : s.heap.objs.size ≤ c' := Nat.le_trans (by rw [Heap.size_push]; omega) hge
    refine wpAny_bind (wpAny_builtinsFor hg' hbm hne0 (hx' _ _ hneP hbo) hcls hdict hdata ?_)
    refine wpAny_bind (wpAny_nsGet hg' ?_)
    exact wpAny_bind (wpAny_pure (wpAny_newObj_type (h c' _ h' tk hx' hge' hlt hrec htb.2) (by size_fits)))
theorem lam_tailHit {cv : Value} (hcl : closureFor scope env = pure clos) (hge0 : env.globals = mainGlobals) (hg : s.heap.Ns mainGlobals mg) (hcode : env.code = .ref c) (C : CodeHd s.heap c P) (hP : s.heap.get? P = some (tabObj ps)) (ht : TriplesOk ps.toList)
    (hf : codeAmong pos ps.toList = some cv) (hb : s.heap.BuiltinsAt mg P)
    (h : ∀ (ctv : Value) (h' : Heap) (tk : Tok), (∀ b o, s.heap.get? b = some o → h'.get? b = some o) → s.heap.objs.size ≤ h'.objs.size →
      Q (.ref h'.objs.size) { s with heap := h'.push (lamObj qual params body scope clos ((mg "__name__").getD .none) cv ctv dV), toks := tk }) :
    wpAny M A (makeTail "<lambda>" qual params (.expr body) scope env dV .none none pos firstLine) Q E s := by
  obtain ⟨bm, ob, hbm, hne0, _, hneP, hbo, hcls, hdict, hdata⟩ := hb
  unfold makeTail
  rw [hcl, hge0]
  refine wpAny_bind (wpAny_pure ?_)
  cases clos with
  | nil =>
    simp only [List.isEmpty_nil, if_true]
    refine wpAny_bind (wpAny_pure ?_)
    refine wpAny_bind (wpAny_functionCode_hit hcode (C.code hP ht) hf ?_)
    refine wpAny_bind (wpAny_builtinsFor hg hbm hne0 hbo hcls hdict hdata ?_)
    refine wpAny_bind (wpAny_nsGet hg ?_)
    exact wpAny_bind (wpAny_pure (wpAny_newObj_type (h .none s.heap s.toks (fun _ _ e => e) (Nat.le_refl _)) (by size_fits)))
  | cons q r =>
    simp only [List.isEmpty_cons, Bool.false_eq_true, if_false]
    refine wpAny_bind (wpAny_newTextTuple ?_)
    refine wpAny_bind (wpAny_functionCode_hit hcode ((C.keeps fun b o e => Heap.get?_push_of_some _ e).code (Heap.get?_push_of_some _ hP) ht) hf ?_)
    refine wpAny_bind (wpAny_builtinsFor (hg.push _) hbm hne0 (Heap.get?_push_of_some _ hbo) hcls hdict hdata ?_)
    refine wpAny_bind (wpAny_nsGet (hg.push _) ?_)
    have hsz : ∀ oT : Obj, s.heap.objs.size ≤ (s.heap.push oT).objs.size := fun oT => by rw [Heap.size_push]; omega
    exact wpAny_bind (wpAny_pure (wpAny_newObj_type (h _ _ s.toks (fun b o e => Heap.get?_push_of_some _ e) (hsz _)) (by size_fits)))
end
variable [LamTab]
section
variable {K : PySem.W.Frag} {S : Wd} {m : Mu}
def Wd.tabled (S : Wd) (P c : Addr) (q : Str) (ps : Array Value) : Wd := ⟨S.i, upd S.F c (CodeO c q), upd (upd S.H P (.tbl ps)) c (CodeO c q)⟩
theorem tabled_ok {P c : Addr} {q : Str} {ps more : Array Value} (sa : Sta K S m) (hP : S.H P = some (.tbl ps)) (hF : S.F P = none) (hi : P ∉ S.i) (hc : S.H c = none) (hu : ∀ p ∈ LamTab.tbls K, p.1 = P → p.2 = q)
    (ht : TriplesOk (ps ++ more).toList) (ha : ∀ (pos : Pos) (cv : Value), codeAmong pos (ps ++ more).toList = some cv → codeAmong pos ps.toList = some cv ∨ cv = .ref c) : Stp S (S.tabled P c q (ps ++ more)) ∧ Sta K (S.tabled P c q (ps ++ more)) m := by
  have nPc : P ≠ c := ne_of_none hP hc
  have fr := sa.fresh hc
  have at_ : ∀ b o, S.H b = some o → (∀ q, o ≠ .tbl q) → (S.tabled P c q (ps ++ more)).H b = some o := fun b o e n => by
    have n1 : b ≠ c := ne_of_none e hc
    have n2 : b ≠ P := fun z => by rw [z, hP] at e; cases e; exact n ps rfl
    show upd (upd S.H P _) c _ b = _
    rw [upd_ne n1, upd_ne n2]; exact e
  have st : Stp S (S.tabled P c q (ps ++ more)) := ⟨List.prefix_refl _, Ext.updNew fr.1, fun a o hn h1 h2 h3 => ⟨at_ a o h1 hn, by
    show upd S.F c _ a = none
    rw [upd_ne (ne_of_none h1 hc)]; exact h2, h3⟩, fun a z => upd_none (upd_none z)⟩
  refine ⟨st, sa.nd, sa.len, fun a o e => ?_, fun a ha => ?_, fun a ha => ?_, fun n a o h1 h2 => ?_, fun r hr => ?_⟩
  · have e : upd S.F c (CodeO c q) a = some o := e
    show upd (upd S.H P _) c _ a = some o
    by_cases h : a = c
    · subst h; rw [upd_same] at e ⊢; exact e
    · rw [upd_ne h] at e ⊢
      rw [upd_ne (fun z => by rw [z, hF] at e; cases e)]
      exact sa.sub a o e
  · have ha : a ∈ S.i := ha
    show upd S.F c _ a = none
    rw [upd_ne (fun z : a = c => fr.2 (z ▸ ha))]
    exact sa.dis a ha
  · have ha : a ∈ S.i := ha
    obtain ⟨o, e⟩ := sa.tr a ha
    refine ⟨o, ?_⟩
    show upd (upd S.H P _) c _ a = some o
    rw [upd_ne (fun z : a = c => fr.2 (z ▸ ha)), upd_ne (fun z : a = P => hi (z ▸ ha))]
    exact e
  · have h1 : S.i[n]? = some a := h1
    have ha := List.mem_of_getElem? h1
    refine (sa.ok n a o h1 h2).stp st ?_
    show upd (upd S.H P _) c _ a = _
    rw [upd_ne (fun z : a = c => fr.2 (z ▸ ha)), upd_ne (fun z : a = P => hi (z ▸ ha))]
  · obtain ⟨ps', t1, t2, t3, t4, t5⟩ := sa.tb r hr
    have n1 : r.1 ≠ c := ne_of_none t1 hc
    by_cases h : r.1 = P
    · rw [h, hP] at t1
      cases t1
      refine ⟨ps ++ more, ?_, ?_, ?_, ht, fun pos cv hcv => ?_⟩
      · show upd (upd S.H P _) c _ r.1 = _
        rw [upd_ne n1, h, upd_same]
      · show upd S.F c _ r.1 = none
        rw [upd_ne n1]; exact t2
      · exact t3
      · rcases ha pos cv hcv with z | z
        · obtain ⟨c0, e1, e2⟩ := t5 pos cv z
          exact ⟨c0, e1, (Ext.updNew fr.1) _ _ e2⟩
        · refine ⟨c, z, ?_⟩
          rw [hu r hr h]
          exact upd_same
    · refine ⟨ps', ?_, ?_, t3, t4, fun pos cv hcv => ?_⟩
      · show upd (upd S.H P _) c _ r.1 = _
        rw [upd_ne n1, upd_ne h]; exact t1
      · show upd S.F c _ r.1 = none
        rw [upd_ne n1]; exact t2
      · obtain ⟨c0, e1, e2⟩ := t5 pos cv hcv
        exact ⟨c0, e1, (Ext.updNew fr.1) _ _ e2⟩
end
def dLam (k : Nat) (g : List (Str × Addr)) : DE := fun _ m => .ok (.lam k g) m
@[simp ↓] theorem dLam_ap (k : Nat) (g : List (Str × Addr)) (e : En) (m : Mu) : dLam k g e m = .ok (.lam k g) m := rfl
def lamFree (sc scope : Scope) (free : List Str) : Bool := scope.names.all fun y => !decide (y.2 = .free) || (decide (y.1 ∈ free) && (decide (sc.names.lookup y.1 = some .cell) || decide (sc.names.lookup y.1 = some .free)))
section
variable {X : Cx} {params : Arguments} {body : Expr} {scope : Scope} {lpos : Pos} {k : Nat} {c P : Addr} {dds : List Int} {pn free : List Str}
theorem lam_has (ok : X.Ok) (h : lamFree X.env.scope scope free = true) : ∀ y ∈ scope.names, y.2 = .free → y.1 ∈ free ∧ ∃ c, X.env.cells.lookup y.1 = some c := fun y hy e => by
  unfold lamFree at h
  have z := List.all_eq_true.mp h y hy
  simp only [Bool.or_eq_true, Bool.and_eq_true, Bool.not_eq_true', decide_eq_true_eq, decide_eq_false_iff_not] at z
  rcases z with z | ⟨z0, z | z⟩
  · exact absurd e z
  · exact ⟨z0, ok.has _ (.inl z)⟩
  · exact ⟨z0, ok.has _ (.inr z)⟩
theorem lam_clo (ok : X.Ok) (h : lamFree X.env.scope scope free = true) {y : Str} {c : Addr} (e : (cloFrom X.env.cells scope.names []).lookup y = some c) : y ∈ free ∧ X.env.cells.lookup y = some c := by
  rcases cloFrom_mem (PySem.mem_of_lookup e) with hm | ⟨h1, h2⟩
  · cases hm
  · obtain ⟨z0, c1, hc⟩ := lam_has ok h _ h1 rfl
    have hc : X.env.cells.lookup y = some c1 := hc
    have e2 : c = c1 := by
      rw [h2, hc] <;> rfl
    rw [e2]
    exact ⟨z0, hc⟩
theorem lam_at (ok : X.Ok) (h : lamFree X.env.scope scope free = true) {F : Hp} {f c' : Addr} {pm ctv dV : Value} (ht : LamTab.tab k = ⟨X.env.qual ++ "<lambda>", params, body, scope, pn, dds, free⟩)
    (h1 : F f = some (pinO f (lamObj (X.env.qual ++ "<lambda>") params body scope (cloFrom X.env.cells scope.names []) pm (.ref c') ctv dV))) (h2 : LamD F (LamTab.tab k) dV) (h3 : F c' = some (CodeO c' (X.env.qual ++ "<lambda>"))) :
    LamAt F (LamTab.tab k) (cloFrom X.env.cells scope.names []) f := by
  refine ⟨_, dV, c', h1, ⟨pm, ctv, by rw [ht]⟩, h2, by rw [ht]; exact h3, fun y z c e1 e2 => ok.inj y z c (lam_clo ok h e1).2 (lam_clo ok h e2).2, fun y hy e => ?_, fun y c e => by rw [ht]; exact (lam_clo ok h e).1⟩
  rw [ht] at hy
  obtain ⟨y1, y2⟩ := y
  have e : y2 = .free := e
  subst e
  exact mem_lookup (cloFrom_has (cells := X.env.cells) (acc := []) hy)
theorem lam_run {pins : List (Addr × Obj)} {σ : L2.St} {S : Wd} {m : Mu} {s : Shared} {dV : Value} {Q : VK} (hcode : X.env.code = .ref c) (TB : TabB X.base X.mg c P) (hm : (P, X.env.qual ++ "<lambda>") ∈ LamTab.tbls X.K) (hu : ∀ p ∈ LamTab.tbls X.K, p.1 = P → p.2 = X.env.qual ++ "<lambda>")
    (ht : LamTab.tab k = ⟨X.env.qual ++ "<lambda>", params, body, scope, pn, dds, free⟩) (hfree : lamFree X.env.scope scope free = true) (I : Inv X pins σ S.H s) (sa : Sta X.K S m) (hd : LamD S.F (LamTab.tab k) dV)
    (p : PostD X.K S (.ok (.lam k (cloFrom X.env.cells scope.names [])) m) Q (fun c d H => Fly X c d σ H)) :
    wpAny (model X.prog X.w) X.A (makeTail "<lambda>" (X.env.qual ++ "<lambda>") params (.expr body) scope X.env dV .none none lpos lpos.line) (EP X pins σ Q) X.xe s := by
  obtain ⟨ps, hP, hF, hi, ht4, ht5⟩ := sa.tb _ hm
  dsimp only at hP hF hi
  have bP : s.heap.BuiltinsAt X.mg P := TB.bm.keeps I.bk
  have hP' : s.heap.get? P = some { cls := .none, data := .fields ps } := I.hok P _ hP
  have finish : ∀ {T : Wd} {pm ctv : Value} {c' : Addr} {h' : Heap} {tk : Nat}, Stp S T → Sta X.K T m → LamD T.F (LamTab.tab k) dV → T.F c' = some (CodeO c' (X.env.qual ++ "<lambda>")) → Inv X pins σ T.H { s with heap := h', toks := tk } →
      EP X pins σ Q (.ref h'.objs.size) { s with heap := h'.push (lamObj (X.env.qual ++ "<lambda>") params body scope (cloFrom X.env.cells scope.names []) pm (.ref c') ctv dV), toks := tk } := fun {T pm ctv c' h' tk} st saT hdT hc I1 => by
    have nf : T.H h'.objs.size = none := I1.hok.fresh (Nat.le_refl _)
    generalize ho : lamObj (X.env.qual ++ "<lambda>") params body scope (cloFrom X.env.cells scope.names []) pm (.ref c') ctv dV = o
    have I2 : Inv X pins σ (upd T.H h'.objs.size (pinO h'.objs.size o)) { s with heap := h'.push o, toks := tk } :=
      I1.laid (t' := tk) (a := h'.objs.size) (o := pinO h'.objs.size o) (h' := h'.push o) (fun b u z => Heap.get?_push_of_some _ z) (Nat.le_refl _) (pinO_ok (Heap.get?_push_size h' (by rw [← ho]; rfl)))
    have st2 := Stp.new saT (o := pinO h'.objs.size o) nf
    have sa2 := saT.new (o := pinO h'.objs.size o) nf
    refine ⟨.ref h'.objs.size, _, I2, rfl, Post.ok p (st.trans st2) sa2 (Rep.lam (lam_at I.ok hfree ht (by rw [ho]; exact upd_same) ?_ (st2.ext _ _ hc)))⟩
    rcases hdT with h | ⟨Tt, us, k1, k2, k3⟩
    · exact .inl h
    · exact .inr ⟨Tt, us, k1, st2.ext _ _ k2, k3⟩
  cases hc : codeAmong lpos ps.toList with
  | none =>
    refine lam_tail (mg := X.mg) (c := c) (P := P) (ps := ps) (closure_ok fun y hy e => (lam_has I.ok hfree y hy e).2) I.ok.glob (I.mod.glob.keeps I.bk) hcode (TB.code.keeps I.bk) hP' ht4 hc TB.gP bP fun c' ctv h' tk hx hge hlt hrec htb => ?_
    obtain ⟨c2, oc, vs, t, e2, hoc, hdc, hv⟩ := hrec
    cases e2
    have nC : S.H c' = none := I.hok.fresh hge
    have eL : (ps ++ #[rawInt lpos.line, rawInt lpos.col, .ref c']).toList = ps.toList ++ [rawInt lpos.line, rawInt lpos.col, .ref c'] := by simp
    obtain ⟨st1, sa1⟩ := tabled_ok (more := #[rawInt lpos.line, rawInt lpos.col, .ref c']) (q := X.env.qual ++ "<lambda>") sa hP hF hi nC hu (by rw [eL]; exact PySem.TriplesOk_snoc _ _ _ _ ht4) (fun p' cv hcv => by
      rw [eL] at hcv
      exact LamX.among_app _ ht4 hcv)
    have I1 := LamX.inv_table (t' := tk) (q := X.env.qual ++ "<lambda>") (more := #[rawInt lpos.line, rawInt lpos.col, .ref c']) (h' := h') I hP (fun b o hb e => hx b o hb e) htb hge ⟨oc, vs, t, hoc, hdc, hv⟩
    have hdT : LamD (S.tabled P c' (X.env.qual ++ "<lambda>") (ps ++ #[rawInt lpos.line, rawInt lpos.col, .ref c'])).F (LamTab.tab k) dV := by
      rcases hd with h | ⟨Tt, us, k1, k2, k3⟩
      · exact .inl h
      · exact .inr ⟨Tt, us, k1, st1.ext _ _ k2, k3⟩
    exact finish st1 sa1 hdT (by show upd S.F c' _ c' = _; rw [upd_same]) I1
  | some cv =>
    obtain ⟨c', e, hco⟩ := ht5 lpos cv hc
    subst e
    refine lam_tailHit (mg := X.mg) (c := c) (P := P) (ps := ps) (closure_ok fun y hy e => (lam_has I.ok hfree y hy e).2) I.ok.glob (I.mod.glob.keeps I.bk) hcode (TB.code.keeps I.bk) hP' ht4 hc bP fun ctv h' tk hx hsz => ?_
    have I1 : Inv X pins σ S.H { s with heap := h', toks := tk } := I.kept fun b o e => hx b o e
    exact finish (Stp.refl S) sa hd hco I1
theorem pd_lam0 (hcode : X.env.code = .ref c) (TB : TabB X.base X.mg c P) (hm : (P, X.env.qual ++ "<lambda>") ∈ LamTab.tbls X.K) (hu : ∀ p ∈ LamTab.tbls X.K, p.1 = P → p.2 = X.env.qual ++ "<lambda>")
    (ht : LamTab.tab k = ⟨X.env.qual ++ "<lambda>", params, body, scope, pn, [], free⟩) (hfree : lamFree X.env.scope scope free = true) (hdef : defaultsOf params X.env = ([], []) := by rfl) :
    PDE X (.Lambda params body scope lpos) (dLam k (cloFrom X.env.cells scope.names [])) := by
  intro S r m σ Q sa re p pins s I
  refine PySem.W.kla_eval hdef ?_
  rw [makeFunction_eq]
  simp only [List.zip_nil_right, List.filterMap_nil, List.isEmpty_nil, if_true, pure_bind]
  exact lam_run hcode TB hm hu ht hfree I sa (.inl ⟨by rw [ht], rfl⟩) p
end
end DL

set_option maxHeartbeats 4000000
namespace DL
open PySem PySem.Spec PyProof.Rows L2
open LamX (CodeO TabB)
variable [LamTab]
open Classical in
noncomputable def remZ (Z : Addr → Prop) (F : Hp) : Hp := fun b => if Z b then none else F b
open Classical in
noncomputable def ovZ (Z : Addr → Prop) (A B : Hp) : Hp := fun b => if Z b then A b else B b
section
variable {Z : Addr → Prop} {F A B : Hp} {b : Addr}
theorem remZ_in (h : Z b) : remZ Z F b = none := if_pos h
theorem remZ_out (h : ¬ Z b) : remZ Z F b = F b := if_neg h
theorem ovZ_in (h : Z b) : ovZ Z A B b = A b := if_pos h
theorem ovZ_out (h : ¬ Z b) : ovZ Z A B b = B b := if_neg h
theorem remZ_some {o : HO} (h : remZ Z F b = some o) : ¬ Z b ∧ F b = some o := by
  by_cases z : Z b
  · rw [remZ_in z] at h; cases h
  · rw [remZ_out z] at h; exact ⟨z, h⟩
end
def IsPin (F : Hp) (b : Addr) : Prop := ∃ (oc : Obj) (u : Value), F b = some (pinO b oc) ∧ oc.data = .cell (some u)
noncomputable def Wd.rem (S : Wd) (Z : Addr → Prop) : Wd := ⟨S.i, remZ Z S.F, remZ Z S.H⟩
section
variable {K : PySem.W.Frag} {i : List Addr} {F : Hp} {Z : Addr → Prop} {n : Nat}
theorem pin_not {b : Addr} (h : ∀ b, Z b → IsPin F b) {o : HO} (e : F b = some o) (ho : ∀ φ, o ≠ .ext φ) : ¬ Z b := fun z => by
  obtain ⟨oc, u, q, _⟩ := h b z
  rw [e] at q
  exact ho _ (Option.some.inj q)
mutual
theorem Rep.remZ (h : ∀ b, Z b → IsPin F b) : ∀ {d : D} {v : V}, Rep K i F d v → below n d = true → Rep K i (remZ Z F) d v
  | _, _, .non, _ => .non
  | _, _, .bl b, _ => .bl b
  | _, _, .int i, _ => .int i
  | _, _, .str x, _ => .str x
  | _, _, .tup h1 r, hb => .tup (by
      rcases h1 with (h1 | ⟨o, h1⟩) | h1
      · exact .inl (.inl ((remZ_out (pin_not h h1 fun φ => nofun)).trans h1))
      · exact .inl (.inr ⟨o, (remZ_out (pin_not h h1 fun φ => nofun)).trans h1⟩)
      · exact .inr h1) (Reps.remZ h r (by unfold below at hb; exact hb))
  | _, _, .lst h1 r, hb => .lst (by
      rcases h1 with (h1 | ⟨o, h1⟩) | h1
      · exact .inl (.inl ((remZ_out (pin_not h h1 fun φ => nofun)).trans h1))
      · exact .inl (.inr ⟨o, (remZ_out (pin_not h h1 fun φ => nofun)).trans h1⟩)
      · exact .inr h1) (Reps.remZ h r (by unfold below at hb; exact hb))
  | _, _, .obj h1 hn r, hb => .obj ((remZ_out (pin_not h h1 fun φ => nofun)).trans h1) hn (Reps.remZ h r (by unfold below at hb; exact hb))
  | _, _, .loc h1, _ => .loc h1
  | _, _, .val v, _ => .val v
  | _, _, .xob _ _ _, hb => by simp [below] at hb
  | _, _, .lam _, hb => by simp [below] at hb
  | _, _, .clo _ _ _, hb => by simp [below] at hb
theorem Reps.remZ (h : ∀ b, Z b → IsPin F b) : ∀ {d : List D} {v : List V}, Reps K i F d v → belows n d = true → Reps K i (remZ Z F) d v
  | _, _, .nil, _ => .nil
  | _, _, .cons h1 r, hb => by
    unfold belows at hb
    obtain ⟨h2, h3⟩ := Bool.and_eq_true_iff.mp hb
    exact .cons (Rep.remZ h h1 h2) (Reps.remZ h r h3)
end
end
section
variable {P : Program} {w : World} {K : PySem.W.Frag} {S T : Wd} {m : Mu} {Z : Addr → Prop} {h : Heap}
theorem pin_track (sa : Sta K S m) (hz : ∀ b, Z b → IsPin S.F b) {b : Addr} (z : Z b) : ∃ (oc : Obj) (u : Value), S.H b = some (pinO b oc) ∧ oc.data = .cell (some u) := by
  obtain ⟨oc, u, e, d⟩ := hz b z
  exact ⟨oc, u, sa.sub _ _ e, d⟩
theorem pin_code (hok : HOk P w S.H h) (sa : Sta K S m) (hz : ∀ b, Z b → IsPin S.F b) {c : Addr} {q : Str} (e : S.F c = some (CodeO c q)) : ¬ Z c := fun z => by
  obtain ⟨oc, u, e1, d⟩ := hz c z
  have h1 := (hok c _ (sa.sub _ _ e1)).1
  obtain ⟨o2, vs, t, h2, d2, _⟩ := (hok c _ (sa.sub _ _ e)).1
  rw [show h.get? c = some oc from h1] at h2
  cases h2
  rw [d] at d2
  cases d2
theorem rem_sta (sa : Sta K S m) (cl : Cl m) (hok : HOk P w S.H h) (hz : ∀ b, Z b → IsPin S.F b) : Sta K (S.rem Z) m := by
  have nz : ∀ a ∈ S.i, ¬ Z a := fun a ha z => by
    obtain ⟨oc, u, e, _⟩ := hz a z
    rw [sa.dis a ha] at e
    cases e
  refine ⟨sa.nd, sa.len, fun a o e => ?_, fun a ha => ?_, fun a ha => ?_, fun n a o h1 h2 => ?_, fun q hq => ?_⟩
  · obtain ⟨z, e⟩ := remZ_some e
    exact (remZ_out z).trans (sa.sub _ _ e)
  · exact (remZ_out (nz a ha)).trans (sa.dis a ha)
  · obtain ⟨o, e⟩ := sa.tr a ha
    exact ⟨o, (remZ_out (nz a ha)).trans e⟩
  · have ha := List.mem_of_getElem? h1
    have q := sa.ok n a o h1 h2
    have hb := cl o (List.mem_of_getElem? h2)
    have eH : (S.rem Z).H a = S.H a := remZ_out (nz a ha)
    cases o with
    | lst ds => obtain ⟨xs, q1, q2⟩ := q; exact ⟨xs, eH.trans q1, q2.remZ hz hb⟩
    | ins C fs => obtain ⟨dx, vs, q1, q2⟩ := q; exact ⟨dx, vs, eH.trans q1, RepF.join q2.split.1 (q2.split.2.remZ hz hb)⟩
    | exo C d =>
      cases d with
      | none => exact (show (S.rem Z).H a = _ from eH.trans q)
      | some k => obtain ⟨dx, q1, q2⟩ := q; exact ⟨dx, q1, eH.trans q2⟩
    | exd fs => obtain ⟨vs, q1, q2⟩ := q; exact ⟨vs, eH.trans q1, RepF.join q2.split.1 (q2.split.2.remZ hz hb)⟩
    | dik kvs => obtain ⟨vs, q1, q0, q2⟩ := q; exact ⟨vs, eH.trans q1, q0, q2.remZ hz hb⟩
    | dit kvs => obtain ⟨vs, q1, q0, q2⟩ := q; exact ⟨vs, eH.trans q1, q0, q2.remZ hz hb⟩
  · obtain ⟨ps, t1, t2, t3, t4, t5⟩ := sa.tb q hq
    have z : ¬ Z q.1 := fun z => by
      obtain ⟨oc, u, e, _⟩ := hz _ z
      rw [t2] at e
      cases e
    exact ⟨ps, (remZ_out z).trans t1, (remZ_out z).trans t2, t3, t4, fun pos cv hc => let ⟨c, c1, c2⟩ := t5 pos cv hc; ⟨c, c1, (remZ_out (pin_code hok sa hz c2)).trans c2⟩⟩
theorem rem_hok (hok : HOk P w S.H h) (sa : Sta K S m) (hz : ∀ b, Z b → IsPin S.F b) : HOk P w (S.rem Z).H h := fun b o e => by
  obtain ⟨z, e⟩ := remZ_some e
  have out : ∀ c u, S.H c = some u → (∀ φ, u ≠ .ext φ) → (S.rem Z).H c = some u := fun c u q n => (remZ_out (fun z => by
    obtain ⟨oc, v, q2, _⟩ := pin_track sa hz z
    rw [q] at q2
    exact n _ (Option.some.inj q2))).trans q
  exact (hok b o e).stay (fun c v _ q => q) (fun c q => out _ _ q fun φ => nofun) fun c xs q => out _ _ q fun φ => nofun
noncomputable def backW (Z : Addr → Prop) (S T2 : Wd) : Wd := ⟨T2.i, ovZ Z S.F T2.F, ovZ Z S.H T2.H⟩
variable {T2 : Wd} {m2 : Mu}
theorem back_stp (sa : Sta K S m) (hz : ∀ b, Z b → IsPin S.F b) (st : Stp (S.rem Z) T2) : Stp S (backW Z S T2) := by
  have so : ∀ {b}, Z b → ∃ o, S.H b = some o := fun {b} z => let ⟨oc, u, e, _⟩ := pin_track sa hz z; ⟨_, e⟩
  refine ⟨st.pre, fun a o e => ?_, fun a o hn h1 h2 h3 => ?_, fun a e => ?_⟩
  · by_cases z : Z a
    · exact (ovZ_in z).trans e
    · exact (ovZ_out z).trans (st.ext _ _ ((remZ_out z).trans e))
  · have z : ¬ Z a := fun z => by
      obtain ⟨oc, u, e, _⟩ := hz a z
      rw [h2] at e
      cases e
    obtain ⟨k1, k2, k3⟩ := st.frame a o hn ((remZ_out z).trans h1) ((remZ_out z).trans h2) h3
    exact ⟨(ovZ_out z).trans k1, (ovZ_out z).trans k2, k3⟩
  · by_cases z : Z a
    · exact ((ovZ_in z).symm.trans e)
    · have e2 : T2.H a = none := (ovZ_out z).symm.trans e
      exact (remZ_out z).symm.trans (st.old a e2)
theorem back_ext (hn : ∀ b, Z b → T2.H b = none) (sa2 : Sta K T2 m2) : Ext T2.F (backW Z S T2).F := fun a o e => (ovZ_out (fun z => by
  have := sa2.sub _ _ e
  rw [hn a z] at this
  cases this)).trans e
theorem back_sta (sa : Sta K S m) (hz : ∀ b, Z b → IsPin S.F b) (sa2 : Sta K T2 m2) (hn : ∀ b, Z b → T2.H b = none) : Sta K (backW Z S T2) m2 := by
  have nz : ∀ a o, T2.H a = some o → ¬ Z a := fun a o e z => by rw [hn a z] at e; cases e
  have nzi : ∀ a ∈ T2.i, ¬ Z a := fun a ha => let ⟨o, e⟩ := sa2.tr a ha; nz a o e
  have ex : Ext T2.F (backW Z S T2).F := back_ext hn sa2
  refine ⟨sa2.nd, sa2.len, fun a o e => ?_, fun a ha => ?_, fun a ha => ?_, fun n a o h1 h2 => ?_, fun q hq => ?_⟩
  · by_cases z : Z a
    · exact (ovZ_in z).trans (sa.sub _ _ ((ovZ_in z).symm.trans e))
    · exact (ovZ_out z).trans (sa2.sub _ _ ((ovZ_out z).symm.trans e))
  · exact (ovZ_out (nzi a ha)).trans (sa2.dis a ha)
  · obtain ⟨o, e⟩ := sa2.tr a ha
    exact ⟨o, (ovZ_out (nz _ _ e)).trans e⟩
  · have ha := List.mem_of_getElem? h1
    have q := sa2.ok n a o h1 h2
    have eH : (backW Z S T2).H a = T2.H a := ovZ_out (nzi a ha)
    cases o with
    | lst ds => obtain ⟨xs, q1, q2⟩ := q; exact ⟨xs, eH.trans q1, q2.mono (List.prefix_refl _) ex⟩
    | ins C fs => obtain ⟨dx, vs, q1, q2⟩ := q; exact ⟨dx, vs, eH.trans q1, q2.mono (List.prefix_refl _) ex⟩
    | exo C d =>
      cases d with
      | none => exact (show (backW Z S T2).H a = _ from eH.trans q)
      | some k => obtain ⟨dx, q1, q2⟩ := q; exact ⟨dx, q1, eH.trans q2⟩
    | exd fs => obtain ⟨vs, q1, q2⟩ := q; exact ⟨vs, eH.trans q1, q2.mono (List.prefix_refl _) ex⟩
    | dik kvs => obtain ⟨vs, q1, q0, q2⟩ := q; exact ⟨vs, eH.trans q1, q0, q2.mono (List.prefix_refl _) ex⟩
    | dit kvs => obtain ⟨vs, q1, q0, q2⟩ := q; exact ⟨vs, eH.trans q1, q0, q2.mono (List.prefix_refl _) ex⟩
  · obtain ⟨ps, t1, t2, t3, t4, t5⟩ := sa2.tb q hq
    have z := nz _ _ t1
    exact ⟨ps, (ovZ_out z).trans t1, (ovZ_out z).trans t2, t3, t4, fun pos cv hc => let ⟨c, c1, c2⟩ := t5 pos cv hc; ⟨c, c1, ex _ _ c2⟩⟩
theorem back_hok {h' : Heap} (hok' : HOk P w T2.H h') (hn : ∀ b, Z b → T2.H b = none) (hk : ∀ b, Z b → ∃ oc : Obj, S.H b = some (pinO b oc) ∧ h'.get? b = some oc) : HOk P w (backW Z S T2).H h' := fun b o e => by
  have nz : ∀ a o, T2.H a = some o → ¬ Z a := fun a o e z => by rw [hn a z] at e; cases e
  by_cases z : Z b
  · obtain ⟨oc, e1, e2⟩ := hk b z
    have e : ovZ Z S.H T2.H b = some o := e
    rw [ovZ_in z, e1] at e
    cases e
    exact pinO_ok e2
  · have e : ovZ Z S.H T2.H b = some o := e
    rw [ovZ_out z] at e
    exact (hok' b o e).stay (fun c v _ q => q) (fun c q => (ovZ_out (nz _ _ q)).trans q) fun c xs q => (ovZ_out (nz _ _ q)).trans q
theorem back_un {fs : List Addr} {h' : Heap} (sa : Sta K S m) (hz : ∀ b, Z b → IsPin S.F b) (un : Un fs [] (S.rem Z).H T2.H h h') : Un fs [] S.H (backW Z S T2).H h h' := by
  have nz : ∀ {b}, S.H b = none → ¬ Z b := fun {b} e z => by
    obtain ⟨oc, u, q, _⟩ := pin_track sa hz z
    rw [e] at q
    cases q
  have nx : ∀ {b o}, S.H b = some o → (∀ φ, o ≠ .ext φ) → ¬ Z b := fun {b o} e n z => by
    obtain ⟨oc, u, q, _⟩ := pin_track sa hz z
    rw [e] at q
    exact n _ (Option.some.inj q)
  refine ⟨fun b o e n => un.keep b o e ((remZ_out (nz n)).trans n), fun b o e n => un.slot b o e ((remZ_out (nz n)).trans n), fun b o e n hx => (ovZ_out (nz n)).trans (un.free b o e ((remZ_out (nz n)).trans n) hx), un.there, fun b xs e => ?_, fun b o u e => ?_, fun b ps e => ?_⟩
  · have z := nx e fun φ => nofun
    exact (ovZ_out z).trans (un.tups b xs ((remZ_out z).trans e))
  · have z := nx e fun φ => nofun
    exact (ovZ_out z).trans (un.frzs b o u ((remZ_out z).trans e))
  · have z := nx e fun φ => nofun
    obtain ⟨more, q⟩ := un.tbls b ps ((remZ_out z).trans e)
    exact ⟨more, (ovZ_out z).trans q⟩
theorem back_ub {fs : List Addr} {B h' : Heap} (sa : Sta K S m) (hz : ∀ b, Z b → IsPin S.F b) (un : UB fs (S.rem Z).H T2.H h B h') : UB fs S.H (backW Z S T2).H h B h' := by
  have nz : ∀ {b}, S.H b = none → ¬ Z b := fun {b} e z => by
    obtain ⟨oc, u, q, _⟩ := pin_track sa hz z
    rw [e] at q
    cases q
  have nx : ∀ {b o}, S.H b = some o → (∀ φ, o ≠ .ext φ) → ¬ Z b := fun {b o} e n z => by
    obtain ⟨oc, u, q, _⟩ := pin_track sa hz z
    rw [e] at q
    exact n _ (Option.some.inj q)
  refine ⟨fun b o e n => un.keep b o e ((remZ_out (nz n)).trans n), un.slot, fun b o e n => (ovZ_out (nz n)).trans (un.free b o e ((remZ_out (nz n)).trans n)), un.there, fun b xs e => ?_, fun b o u e => ?_, fun b ps e => ?_⟩
  · have z := nx e fun φ => nofun
    exact (ovZ_out z).trans (un.tups b xs ((remZ_out z).trans e))
  · have z := nx e fun φ => nofun
    exact (ovZ_out z).trans (un.frzs b o u ((remZ_out z).trans e))
  · have z := nx e fun φ => nofun
    obtain ⟨more, q⟩ := un.tbls b ps ((remZ_out z).trans e)
    exact ⟨more, (ovZ_out z).trans q⟩
end
section
variable {P : Program} {w : World} {K : PySem.W.Frag} {S T : Wd} {m m2 : Mu} {Z : Addr → Prop} {h h' : Heap} {pf : Hp}
noncomputable def inW (Z : Addr → Prop) (pf : Hp) (S : Wd) : Wd := ⟨S.i, ovZ Z pf S.F, ovZ Z pf S.H⟩
theorem in_ext (sa : Sta K S m) (hn : ∀ b, Z b → S.H b = none) : Ext S.F (inW Z pf S).F := fun a o e => (ovZ_out (fun z => by
  have := sa.sub _ _ e
  rw [hn a z] at this
  cases this)).trans e
theorem in_sta (sa : Sta K S m) (hn : ∀ b, Z b → S.H b = none) : Sta K (inW Z pf S) m := by
  have nz : ∀ a o, S.H a = some o → ¬ Z a := fun a o e z => by rw [hn a z] at e; cases e
  have nzi : ∀ a ∈ S.i, ¬ Z a := fun a ha => let ⟨o, e⟩ := sa.tr a ha; nz a o e
  have ex : Ext S.F (inW Z pf S).F := in_ext sa hn
  refine ⟨sa.nd, sa.len, fun a o e => ?_, fun a ha => ?_, fun a ha => ?_, fun n a o h1 h2 => ?_, fun q hq => ?_⟩
  · by_cases z : Z a
    · exact (ovZ_in z).trans ((ovZ_in z).symm.trans e)
    · exact (ovZ_out z).trans (sa.sub _ _ ((ovZ_out z).symm.trans e))
  · exact (ovZ_out (nzi a ha)).trans (sa.dis a ha)
  · obtain ⟨o, e⟩ := sa.tr a ha
    exact ⟨o, (ovZ_out (nz _ _ e)).trans e⟩
  · have ha := List.mem_of_getElem? h1
    have q := sa.ok n a o h1 h2
    have eH : (inW Z pf S).H a = S.H a := ovZ_out (nzi a ha)
    cases o with
    | lst ds => obtain ⟨xs, q1, q2⟩ := q; exact ⟨xs, eH.trans q1, q2.mono (List.prefix_refl _) ex⟩
    | ins C fs => obtain ⟨dx, vs, q1, q2⟩ := q; exact ⟨dx, vs, eH.trans q1, q2.mono (List.prefix_refl _) ex⟩
    | exo C d =>
      cases d with
      | none => exact (show (inW Z pf S).H a = _ from eH.trans q)
      | some k => obtain ⟨dx, q1, q2⟩ := q; exact ⟨dx, q1, eH.trans q2⟩
    | exd fs => obtain ⟨vs, q1, q2⟩ := q; exact ⟨vs, eH.trans q1, q2.mono (List.prefix_refl _) ex⟩
    | dik kvs => obtain ⟨vs, q1, q0, q2⟩ := q; exact ⟨vs, eH.trans q1, q0, q2.mono (List.prefix_refl _) ex⟩
    | dit kvs => obtain ⟨vs, q1, q0, q2⟩ := q; exact ⟨vs, eH.trans q1, q0, q2.mono (List.prefix_refl _) ex⟩
  · obtain ⟨ps, t1, t2, t3, t4, t5⟩ := sa.tb q hq
    have z := nz _ _ t1
    exact ⟨ps, (ovZ_out z).trans t1, (ovZ_out z).trans t2, t3, t4, fun pos cv hc => let ⟨c, c1, c2⟩ := t5 pos cv hc; ⟨c, c1, ex _ _ c2⟩⟩
theorem in_hok (hok : HOk P w S.H h) (hn : ∀ b, Z b → S.H b = none) (hp : ∀ b, Z b → ∃ oc : Obj, pf b = some (pinO b oc) ∧ h.get? b = some oc) : HOk P w (inW Z pf S).H h := fun b o e => by
  have nz : ∀ a o, S.H a = some o → ¬ Z a := fun a o e z => by rw [hn a z] at e; cases e
  by_cases z : Z b
  · obtain ⟨oc, e1, e2⟩ := hp b z
    have e : ovZ Z pf S.H b = some o := e
    rw [ovZ_in z, e1] at e
    cases e
    exact pinO_ok e2
  · have e : ovZ Z pf S.H b = some o := e
    rw [ovZ_out z] at e
    exact (hok b o e).stay (fun c v _ q => q) (fun c q => (ovZ_out (nz _ _ q)).trans q) fun c xs q => (ovZ_out (nz _ _ q)).trans q
theorem out_stp (sa : Sta K S m) (hn : ∀ b, Z b → S.H b = none) (hp : ∀ b, Z b → IsPin pf b) (st : Stp (inW Z pf S) T) : Stp S (T.rem Z) := by
  refine ⟨st.pre, fun a o e => ?_, fun a o hno h1 h2 h3 => ?_, fun a e => ?_⟩
  · have z : ¬ Z a := fun z => by
      have := sa.sub _ _ e
      rw [hn a z] at this
      cases this
    exact (remZ_out z).trans (st.ext _ _ ((ovZ_out z).trans e))
  · have z : ¬ Z a := fun z => by rw [hn a z] at h1; cases h1
    obtain ⟨k1, k2, k3⟩ := st.frame a o hno ((ovZ_out z).trans h1) ((ovZ_out z).trans h2) h3
    exact ⟨(remZ_out z).trans k1, (remZ_out z).trans k2, k3⟩
  · by_cases z : Z a
    · exact hn a z
    · exact (ovZ_out z).symm.trans (st.old a ((remZ_out z).symm.trans e))
theorem out_un {fs : List Addr} (hn : ∀ b, Z b → S.H b = none) (hp : ∀ b, Z b → ∃ oc : Obj, pf b = some (pinO b oc) ∧ h.get? b = some oc) (hT : ∀ b, Z b → T.H b = pf b) (hok' : HOk P w T.H h') (un : Un fs [] (inW Z pf S).H T.H h h') : Un fs [] S.H (T.rem Z).H h h' := by
  have at_ : ∀ {b o}, Z b → h.get? b = some o → h'.get? b = some o := fun {b o} z e => by
    obtain ⟨oc, e1, e2⟩ := hp b z
    rw [e] at e2
    cases e2
    exact (hok' b _ ((hT b z).trans e1)).1
  refine ⟨fun b o e n hb hx => ?_, fun b o e n hb hx => ?_, fun b o e n hx => ?_, un.there, fun b xs e => ?_, fun b o u e => ?_, fun b ps e => ?_⟩
  · by_cases z : Z b
    · exact at_ z e
    · exact un.keep b o e ((ovZ_out z).trans n) hb hx
  · by_cases z : Z b
    · exact ⟨o.slots, at_ z e⟩
    · exact un.slot b o e ((ovZ_out z).trans n) hb hx
  · by_cases z : Z b
    · exact remZ_in z
    · exact (remZ_out z).trans (un.free b o e ((ovZ_out z).trans n) hx)
  · have z : ¬ Z b := fun z => by rw [hn b z] at e; cases e
    exact (remZ_out z).trans (un.tups b xs ((ovZ_out z).trans e))
  · have z : ¬ Z b := fun z => by rw [hn b z] at e; cases e
    exact (remZ_out z).trans (un.frzs b o u ((ovZ_out z).trans e))
  · have z : ¬ Z b := fun z => by rw [hn b z] at e; cases e
    obtain ⟨more, q⟩ := un.tbls b ps ((ovZ_out z).trans e)
    exact ⟨more, (remZ_out z).trans q⟩
theorem out_ub {fs : List Addr} {B : Heap} (hn : ∀ b, Z b → S.H b = none) (hp : ∀ b, Z b → ∃ oc : Obj, pf b = some (pinO b oc) ∧ h.get? b = some oc) (hT : ∀ b, Z b → T.H b = pf b) (hok' : HOk P w T.H B) (un : UB fs (inW Z pf S).H T.H h B h') : UB fs S.H (T.rem Z).H h B h' := by
  have at_ : ∀ {b o}, Z b → h.get? b = some o → B.get? b = some o := fun {b o} z e => by
    obtain ⟨oc, e1, e2⟩ := hp b z
    rw [e] at e2
    cases e2
    exact (hok' b _ ((hT b z).trans e1)).1
  refine ⟨fun b o e n hb => ?_, un.slot, fun b o e n => ?_, un.there, fun b xs e => ?_, fun b o u e => ?_, fun b ps e => ?_⟩
  · by_cases z : Z b
    · exact at_ z e
    · exact un.keep b o e ((ovZ_out z).trans n) hb
  · by_cases z : Z b
    · exact remZ_in z
    · exact (remZ_out z).trans (un.free b o e ((ovZ_out z).trans n))
  · have z : ¬ Z b := fun z => by rw [hn b z] at e; cases e
    exact (remZ_out z).trans (un.tups b xs ((ovZ_out z).trans e))
  · have z : ¬ Z b := fun z => by rw [hn b z] at e; cases e
    exact (remZ_out z).trans (un.frzs b o u ((ovZ_out z).trans e))
  · have z : ¬ Z b := fun z => by rw [hn b z] at e; cases e
    obtain ⟨more, q⟩ := un.tbls b ps ((ovZ_out z).trans e)
    exact ⟨more, (remZ_out z).trans q⟩
end
end DL

set_option maxHeartbeats 4000000
namespace DL
open PySem PySem.Spec PyProof.Rows L2
open LamX (CodeO TabB)
variable [LamTab]
def LamDH (h : Heap) (t : LamT) (dV : Value) (ud : List Value) : Prop := (t.dds = [] ∧ dV = .none ∧ ud = []) ∨ ∃ T : Addr, dV = .ref T ∧ h.get? T = some { cls := .type "tuple", data := .seq ud.toArray } ∧ Vals (t.dds.map V.int) ud
def LBind (t : LamT) : Prop := ∀ (q : Str) (body : Expr) (scope : Scope) (g : List (Str × Addr)) (pm cv ctv : Value) (us : List Value),
  (t.dds = [] → us.length = t.ps.length → bindArgs { name := "<lambda>", qualname := q, params := t.params, body := .expr body, scope, globals := mainGlobals, closure := g, defaults := .none, kwdefaults := .none, doc := .none, pyModule := pm, annotations := none, code := cv, closureTuple := ctv, builtins := builtinsNs } ⟨us, []⟩ = pure (t.ps.zip us)) ∧
  ∀ (T : Addr) (ud : List Value), ud.length = t.dds.length → us.length + ud.length = t.ps.length → ∃ k : Option (Array Value) → Sem (List (Str × Value)), bindArgs { name := "<lambda>", qualname := q, params := t.params, body := .expr body, scope, globals := mainGlobals, closure := g, defaults := .ref T, kwdefaults := .none, doc := .none, pyModule := pm, annotations := none, code := cv, closureTuple := ctv, builtins := builtinsNs } ⟨us, []⟩ = seqItems? (.ref T) >>= k ∧ k (some ud.toArray) = pure (t.ps.zip (us ++ ud))
def lamScB (t : LamT) : Bool := decide (t.scope.kind = .function) && (!t.scope.isCoroutine && (!t.scope.isGenerator && (decide ((t.ps ++ t.free).Nodup) && (t.ps.all (fun y => decide (t.scope.names.lookup y = some .local)) && t.scope.names.all fun y => !decide (y.2 = .cell) && (!decide (y.2 = .local) || decide (y.1 ∈ t.ps))))))
structure LamSc (t : LamT) : Prop where
  kind : t.scope.kind = .function
  co : t.scope.isCoroutine = false
  gen : t.scope.isGenerator = false
  nd : (t.ps ++ t.free).Nodup
  par : ∀ y ∈ t.ps, t.scope.names.lookup y = some .local
  nocell : ∀ y ∈ t.scope.names, y.2 ≠ .cell
  loc : ∀ y ∈ t.scope.names, y.2 = .local → y.1 ∈ t.ps
theorem lamSc_by {t : LamT} (h : lamScB t = true) : LamSc t := by
  unfold lamScB at h
  simp only [Bool.and_eq_true, Bool.or_eq_true, Bool.not_eq_true', decide_eq_true_eq, decide_eq_false_iff_not, List.all_eq_true] at h
  obtain ⟨h1, h2, h3, h4, h5, h6⟩ := h
  exact ⟨h1, h2, h3, h4, h5, fun y hy => (h6 y hy).1, fun y hy e => (h6 y hy).2.resolve_left fun z => z e⟩
abbrev lamEnvD (t : LamT) (g : List (Str × Addr)) (L f c' : Addr) : Env := PySem.W.envX t.qual t.scope L f (.ref c') g
def lamCxD (P : Program) (w : World) (K : PySem.W.Frag) (mg : Str → Option Value) (base : Heap) (t : LamT) (g : List (Str × Addr)) (f c' : Addr) (A : Around) (outer : List Env) (s : Shared) (H : Hp) (E : XK) : Cx where
  prog := P
  w := w
  K := K
  mg := mg
  base := base
  A := A.deeper (lamEnvD t g s.heap.objs.size f c')
  N := t.ps ++ t.free
  s_0 := s
  H_0 := H
  env := lamEnvD t g s.heap.objs.size f c'
  outer := outer
  stack := lamEnvD t g s.heap.objs.size f c' :: outer
  ex := []
  fn := fun _ => false
  calm := true
  pn := []
  xe := fun e s' => wpAny (model P w) (A.deeper (lamEnvD t g s.heap.objs.size f c')) (leaving (lamEnvD t g s.heap.objs.size f c') e) (fun _ s'' => L2.CX P w outer H s E e s'') (fun e' s'' => L2.CX P w outer H s E e' s'') s'
structure LamOk (P : Program) (w : World) (K : PySem.W.Frag) (mg : Str → Option Value) (base : Heap) (lv k : Nat) (G : DFn) : Prop where
  run : ∀ (A : Around) (outer : List Env) (s : Shared) (f c' : Addr) (g : List (Str × Addr)) (pm ctv dV : Value) (us ud : List Value) (avs fvs : List V) (S : Wd) (m : Mu) (ads fds : List D) (Q : VK) (E : XK),
    Room lv A → Env0 P w K mg base A outer s S.H → s.heap.get? f = some (lamObj (LamTab.tab k).qual (LamTab.tab k).params (LamTab.tab k).body (LamTab.tab k).scope g pm (.ref c') ctv dV) → s.heap.CodeRec (.ref c') (LamTab.tab k).qual →
    LamDH s.heap (LamTab.tab k) dV ud → (∀ y z c, g.lookup y = some c → g.lookup z = some c → y = z) → (∀ y ∈ (LamTab.tab k).scope.names, y.2 = .free → ∃ c, g.lookup y.1 = some c) → (∀ y b, g.lookup y = some b → S.H b = none ∧ ∃ v, s.heap.IsCell b v) →
    (∀ (i : Nat) (y : Str) (v : V), (LamTab.tab k).free[i]? = some y → fvs[i]? = some v → ∃ c u, g.lookup y = some c ∧ s.heap.IsCell c (some u) ∧ RelV v u) →
    Vals avs us → Sta K S m → Reps K S.i S.F ads avs → Reps K S.i S.F fds fvs → ads.length + (LamTab.tab k).dds.length = (LamTab.tab k).ps.length → fds.length = (LamTab.tab k).free.length →
    PostD K S (G (ads ++ ((LamTab.tab k).dds.map D.int ++ fds)) m) Q E → codeAny (model P w) A (.call (.ref f) ⟨us, []⟩) (CR (L2.CX P w) outer P w S.H s Q E) s
theorem reps_int {K : PySem.W.Frag} {i : List Addr} {F : Hp} : ∀ ns : List Int, Reps K i F (ns.map D.int) (ns.map V.int)
  | [] => .nil
  | n :: ns => .cons (.int n) (reps_int ns)
section
variable {P : Program} {w : World} {K : PySem.W.Frag} {mg : Str → Option Value} {base : Heap}
theorem lam_inv {t : LamT} {g : List (Str × Addr)} {f c' : Addr} {A : Around} {outer : List Env} {s : Shared} {H : Hp} {E : XK} {h₁ : Heap} {tk : Nat} {us : List Value} {avs fvs : List V} (S : LamSc t) (hd : A.handled = none) (e0 : Env0 P w K mg base A outer s H)
    (inj : ∀ y z c, g.lookup y = some c → g.lookup z = some c → y = z) (has : ∀ y ∈ t.scope.names, y.2 = .free → ∃ c, g.lookup y.1 = some c) (hc : ∀ y b, g.lookup y = some b → H b = none ∧ ∃ v, s.heap.IsCell b v)
    (hf : ∀ (i : Nat) (y : Str) (v : V), t.free[i]? = some y → fvs[i]? = some v → ∃ c u, g.lookup y = some c ∧ s.heap.IsCell c (some u) ∧ RelV v u) (rv : Vals avs us) (hl : avs.length = t.ps.length) (hl2 : fvs.length = t.free.length)
    (hns : h₁.Ns s.heap.objs.size fun x => (t.ps.zip us).reverse.lookup x) (kp : ∀ b o, s.heap.get? b = some o → h₁.get? b = some o) :
    Inv (lamCxD P w K mg base t g f c' A outer s H E) [] ((avs ++ fvs).map some) H { s with heap := h₁, toks := tk } := by
  have noA : ∀ b : Addr, b ∉ (lamCxD P w K mg base t g f c' A outer s H E).ex := fun b z => absurd (show b ∈ ([] : List Addr) from z) (by simp)
  have cellK : ∀ {c : Addr} {v : Option Value}, s.heap.IsCell c v → h₁.IsCell c v := fun {c v} ⟨o, ho, hd⟩ => ⟨o, kp _ _ ho, hd⟩
  have ndP : t.ps.Nodup := S.nd.sublist (List.sublist_append_left _ _)
  have lus : us.length = t.ps.length := by rw [← rv.length]; exact hl
  refine ⟨⟨e0.mod, S.kind, rfl, rfl, Nat.le_refl _, inj, fun y hy => ?_, fun y c z _ => ?_, fun _ => hd, Around.frames_deeper e0.frames, .inr ⟨rfl, rfl⟩, fun b z => absurd z (noA b), e0.bs, e0.bsz, fun b _ _ => noA b, fun b z => absurd z (noA b), e0.funs, e0.frf⟩,
    rfl, e0.bare, Un.kept kp, ⟨_, hns, fun i y v e1 e2 e3 => ?_⟩, fun y c e => ?_, e0.hok.fresh (Nat.le_refl _), fun y c e => (hc y c e).1, fun q hq => absurd (show q ∈ ([] : List (Addr × Obj)) ++ [] from hq) (by simp), e0.hok.kept kp, ?_⟩
  · have hy : t.scope.names.lookup y = some .cell ∨ t.scope.names.lookup y = some .free := hy
    rcases hy with hy | hy
    · exact absurd rfl (S.nocell _ (PySem.mem_of_lookup hy))
    · exact has _ (PySem.mem_of_lookup hy) rfl
  · cases (show false = true from z)
  · have e1 : (t.ps ++ t.free)[i]? = some y := e1
    have e2 : ((avs ++ fvs).map some)[i]? = some (some v) := e2
    have e3 : Vis t.scope y := e3
    rw [List.getElem?_map] at e2
    cases q : (avs ++ fvs)[i]? with
    | none => rw [q] at e2; cases e2
    | some v' =>
      rw [q] at e2
      cases e2
      by_cases hi : i < t.ps.length
      · rw [List.getElem?_append_left hi] at e1
        rw [List.getElem?_append_left (by rw [hl]; exact hi)] at q
        obtain ⟨u, hu, ru⟩ := rv.get q
        refine ⟨u, ru, .inl ⟨S.par y (List.mem_of_getElem? e1), rev_zip ndP lus.symm e1 hu⟩⟩
      · have hi : t.ps.length ≤ i := Nat.le_of_not_lt hi
        rw [List.getElem?_append_right hi] at e1
        rw [List.getElem?_append_right (by rw [hl]; exact hi), hl] at q
        obtain ⟨c, u, h1, h2, h3⟩ := hf _ y v e1 q
        have hfree : t.scope.names.lookup y = some .free := by
          rcases e3 with k | k | k
          · have := S.loc _ (PySem.mem_of_lookup k) rfl
            exact absurd (List.mem_of_getElem? e1) (fun z => (List.nodup_append.mp S.nd).2.2 y this y z rfl)
          · exact absurd rfl (S.nocell _ (PySem.mem_of_lookup k))
          · exact k
        exact ⟨u, h3, .inr ⟨.inr hfree, c, h1, cellK h2⟩⟩
  · obtain ⟨v, z⟩ := (hc y c e).2
    exact ⟨v, cellK z⟩
  · show _ = (t.ps ++ t.free).length
    rw [List.length_map, List.length_append, List.length_append, hl, hl2]
theorem lamOk_of {lv k : Nat} {t : DE} (S : lamScB (LamTab.tab k) = true) (hb : LBind (LamTab.tab k))
    (h : ∀ (g : List (Str × Addr)) (f c' : Addr) (A : Around) (outer : List Env) (s : Shared) (H : Hp) (E : XK), Room lv (A.deeper (lamEnvD (LamTab.tab k) g s.heap.objs.size f c')) → PDE (lamCxD P w K mg base (LamTab.tab k) g f c' A outer s H E) (LamTab.tab k).body t) :
    LamOk P w K mg base (lv + 1) k fun ds m => t (ds.map some) m := by
  have S := lamSc_by S
  refine ⟨fun A outer s f c' g pm ctv dV us ud avs fvs W m ads fds Q E hr e0 ho hcd hdd inj has hc hf rv sa ra rf hl hl2 p => ?_⟩
  have lim : s.heap.NoLimit := e0.mod.nolimit.keeps fun b o e => (e0.bs b o e).1
  refine PySem.W.kla_callFunE hr.depth ho rfl S.co S.gen rfl hcd ?_
  have vd : Vals ((LamTab.tab k).dds.map V.int) ud := by
    rcases hdd with ⟨e1, _, e3⟩ | ⟨_, _, _, e⟩
    · rw [e1, e3]; exact .nil
    · exact e
  have lud : ud.length = (LamTab.tab k).dds.length := by rw [← vd.length]; simp
  have la : us.length = ads.length := by rw [← rv.length, ← ra.len]
  have rest : wpAny (model P w) A.in1 (newFunctionEnv (LamTab.tab k).scope mainGlobals g ((LamTab.tab k).ps.zip (us ++ ud)) ((LamTab.tab k).qual ++ ".<locals>.") (some f) (.ref c') none builtinsNs)
      (fun env s₂ => s₂.heap.NoLimit ∧ codeAny (model P w) A (.expr (LamTab.tab k).body env) (CR (L2.CX P w) outer P w W.H s Q E) s₂) (fun e s' => CR (L2.CX P w) outer P w W.H s Q E (.error e) s') s := by
    refine wpAny_newFunctionEnv S.nocell (fun y hy => S.par _ (List.of_mem_zip hy).1) (fun h₁ hns hsb => ⟨lim.fresh _ hsb, ?_⟩) S.kind
    show codeAny _ _ (.expr (LamTab.tab k).body (lamEnvD (LamTab.tab k) g s.heap.objs.size f c')) _ _
    have kp : ∀ b o, s.heap.get? b = some o → h₁.get? b = some o := fun b o e => hsb.extBut b o (Nat.ne_of_lt (Heap.lt_size e)) (Heap.get?_push_of_some _ e)
    have J := lam_inv (P := P) (w := w) (K := K) (mg := mg) (base := base) (c' := c') (f := f) (E := E) (tk := s.toks + ((LamTab.tab k).ps.zip (us ++ ud)).length) S hr.hd e0 inj has hc hf (rv.append vd)
      (by rw [List.length_append, List.length_map, ← ra.len]; exact hl) (by rw [← rf.len]; exact hl2) hns kp
    have rall : Reps K W.i W.F (ads ++ ((LamTab.tab k).dds.map D.int ++ fds)) (avs ++ ((LamTab.tab k).dds.map V.int ++ fvs)) := ra.append ((reps_int _).append rf)
    have re : RelE K W ((ads ++ ((LamTab.tab k).dds.map D.int ++ fds)).map some) ((avs ++ (LamTab.tab k).dds.map V.int ++ fvs).map some) := by
      rw [List.append_assoc]
      refine ⟨by rw [List.length_map, List.length_map, rall.len], fun i d e => ?_⟩
      rw [List.getElem?_map] at e
      cases q : (ads ++ ((LamTab.tab k).dds.map D.int ++ fds))[i]? with
      | none => rw [q] at e; cases e
      | some d' =>
        rw [q] at e; cases e
        obtain ⟨v, h1, h2⟩ := rall.get q
        exact ⟨v, by rw [List.getElem?_map, h1]; rfl, h2⟩
    have tk : Takes (lamCxD P w K mg base (LamTab.tab k) g f c' A outer s W.H E) (fun cls d _ H => E cls d H) := takes_of rfl rfl rfl rfl
    refine PySem.W.kla_codeExpr (wpAny_mono (h g f c' A outer s W.H E (hr.deeper _) W _ m _ Q sa re ?_ [] _ J) (fun v s' hq => ?_) fun e s' hq => hq)
    · cases q : t ((ads ++ ((LamTab.tab k).dds.map D.int ++ fds)).map some) m with
      | stuck => rw [q] at p; exact p.elim
      | ok d m1 => rw [q] at p; exact p
      | exc C fs m1 => rw [q] at p; exact fun dd vs U st hn sa1 h1 h2 => Fly.of tk (p dd vs U st hn sa1 h1 h2)
    · obtain ⟨w', H', J', rv', q⟩ := hq
      exact ⟨w', H', J'.os, J'.bare, J'.base, J'.hok, rv', q⟩
  rcases hdd with ⟨e1, e2, e3⟩ | ⟨T, e2, eT, _⟩
  · subst e2 e3
    rw [((hb (LamTab.tab k).qual (LamTab.tab k).body (LamTab.tab k).scope g pm (.ref c') ctv us).1 e1 (by rw [la, ← hl, e1]; rfl))]
    rw [List.append_nil] at rest
    exact wpAny_pure rest
  · subst e2
    obtain ⟨kk, b1, b2⟩ := (hb (LamTab.tab k).qual (LamTab.tab k).body (LamTab.tab k).scope g pm (.ref c') ctv us).2 T ud lud (by rw [la, lud]; exact hl)
    rw [b1]
    refine wpAny_bind (wpAny_seqItems eT rfl ?_)
    rw [b2]
    exact wpAny_pure rest
end
section
variable {X : Cx} {pins : List (Addr × Obj)} {σ : L2.St}
theorem run_clo {lv k : Nat} {G : DFn} {S : Wd} {m : Mu} {s : Shared} {g : List (Str × Addr)} {f : Addr} {vs avs : List V} {us : List Value} {as ds : List D} {Q : VK} (L : LamOk X.prog X.w X.K X.mg X.base lv k G) (hr : Room lv X.A) (I : Inv X pins σ S.H s) (sa : Sta X.K S m) (cl : Cl m)
    (hl : LamAt S.F (LamTab.tab k) g f) (hc : CelAt S.F (LamTab.tab k).free g vs) (rds : Reps X.K S.i S.F ds vs) (bds : belows m.length ds = true) (ras : Reps X.K S.i S.F as avs) (bas : belows m.length as = true) (rv : Vals avs us)
    (l1 : as.length + (LamTab.tab k).dds.length = (LamTab.tab k).ps.length) (l2 : ds.length = (LamTab.tab k).free.length) (p : PostD X.K S (G (as ++ ((LamTab.tab k).dds.map D.int ++ ds)) m) Q (fun c d H => Fly X c d σ H)) :
    wpAny (model X.prog X.w) X.A (call (.ref f) us) (EP X pins σ Q) X.xe s := by
  obtain ⟨o, dV, c', hF, ⟨pm, ctv, ho⟩, hD, hC, inj, has, dom⟩ := hl
  have lvs : vs.length = (LamTab.tab k).free.length := by rw [← rds.len]; exact l2
  generalize hZ : (fun b : Addr => ∃ y, g.lookup y = some b) = Z
  have inZ : ∀ {b}, Z b ↔ ∃ y, g.lookup y = some b := fun {b} => by rw [← hZ]
  have hz : ∀ b, Z b → IsPin S.F b := fun b z => by
    obtain ⟨y, e⟩ := inZ.mp z
    obtain ⟨i, hi⟩ := List.getElem?_of_mem (dom y b e)
    have hi2 : i < vs.length := by rw [lvs]; exact (List.getElem?_eq_some_iff.mp hi).1
    obtain ⟨c, oc, u, e1, e2, e3, _⟩ := hc i y _ hi (List.getElem?_eq_getElem hi2)
    rw [e] at e1
    cases e1
    exact ⟨oc, u, e2, e3⟩
  have sa2 : Sta X.K (S.rem Z) m := rem_sta sa cl I.hok hz
  have hof : s.heap.get? f = some o := (I.hok f _ (sa.sub _ _ hF)).1
  rw [ho] at hof
  have hcd : s.heap.CodeRec (.ref c') (LamTab.tab k).qual := by
    obtain ⟨oc, ws, t, h1, h2, h3⟩ := (I.hok c' _ (sa.sub _ _ hC)).1
    exact ⟨c', oc, ws, t, rfl, h1, h2, h3⟩
  obtain ⟨ud, hdd⟩ : ∃ ud, LamDH s.heap (LamTab.tab k) dV ud := by
    rcases hD with ⟨e1, e2⟩ | ⟨T, ud, e1, e2, e3⟩
    · exact ⟨[], .inl ⟨e1, e2, rfl⟩⟩
    · exact ⟨ud, .inr ⟨T, e1, (I.hok T _ (sa.sub _ _ e2)).1, e3⟩⟩
  have pinS : ∀ b, Z b → ∃ oc : Obj, S.H b = some (pinO b oc) ∧ s.heap.get? b = some oc ∧ b ∉ frs X.stack := fun b z => by
    obtain ⟨oc, u, e, d⟩ := pin_track sa hz z
    refine ⟨oc, e, (I.hok b _ e).1, fun hm => ?_⟩
    rw [I.env0.frf b hm] at e
    cases e
  have e0 : Env0 X.prog X.w X.K X.mg X.base X.A X.stack s (S.rem Z).H := by
    have e := I.env0
    refine ⟨e.frames, e.mod, fun b o q => ⟨(e.bs b o q).1, ?_⟩, e.bsz, e.funs, fun b hb => ?_, rem_hok I.hok sa hz, e.bare⟩
    · by_cases z : Z b
      · exact remZ_in z
      · exact (remZ_out z).trans (e.bs b o q).2
    · by_cases z : Z b
      · exact remZ_in z
      · exact (remZ_out z).trans (e.frf b hb)
  have n2 : ∀ b, Z b → (S.rem Z).H b = none := fun b z => remZ_in z
  -- what is wanted behind the lambda's own call
  have pR : PostD X.K (S.rem Z) (G (as ++ ((LamTab.tab k).dds.map D.int ++ ds)) m)
      (fun v H' => ∃ T2 : Wd, H' = T2.H ∧ ((∀ b, Z b → T2.H b = none) → Q v (backW Z S T2).H))
      (fun c d H' => ∃ T2 : Wd, H' = T2.H ∧ ((∀ b, Z b → T2.H b = none) → Fly X c d σ (backW Z S T2).H)) := by
    cases q : G (as ++ ((LamTab.tab k).dds.map D.int ++ ds)) m with
    | stuck => rw [q] at p; exact p.elim
    | ok d m2 =>
      rw [q] at p
      exact fun v T2 st saT rd => ⟨T2, rfl, fun hn => p v _ (back_stp sa hz st) (back_sta sa hz saT hn) (rd.mono (List.prefix_refl _) (back_ext hn saT))⟩
    | exc C fs m2 =>
      rw [q] at p
      refine fun dd ws T2 st hnd saT h1 h2 => ⟨T2, rfl, fun hn => ?_⟩
      have nz : ¬ Z dd := fun z => by rw [hn dd z] at h1; cases h1
      exact p dd ws _ (back_stp sa hz st) ((remZ_out nz).symm.trans hnd) (back_sta sa hz saT hn) ((ovZ_out nz).trans h1) (h2.mono (List.prefix_refl _) (back_ext hn saT))
  have cf : ∀ y b, g.lookup y = some b → (S.rem Z).H b = none ∧ ∃ v, s.heap.IsCell b v := fun y b e => by
    have z : Z b := inZ.mpr ⟨y, e⟩
    obtain ⟨oc, u, e1, d⟩ := pin_track sa hz z
    exact ⟨remZ_in z, some u, oc, (I.hok b _ e1).1, d⟩
  have hf : ∀ (i : Nat) (y : Str) (v : V), (LamTab.tab k).free[i]? = some y → vs[i]? = some v → ∃ c u, g.lookup y = some c ∧ s.heap.IsCell c (some u) ∧ RelV v u := fun i y v e1 e2 => by
    obtain ⟨c, oc, u, a1, a2, a3, a4⟩ := hc i y v e1 e2
    exact ⟨c, u, a1, ⟨oc, (I.hok c _ (sa.sub _ _ a2)).1, a3⟩, a4⟩
  refine wpAny_call (codeAny_mono (L.run X.A X.stack s f c' g pm ctv dV us ud avs vs (S.rem Z) m as ds _ _ hr e0 hof hcd hdd inj has cf hf rv sa2 (ras.remZ hz bas) (rds.remZ hz bds) l1 l2 pR) fun r s' hq => ?_)
  cases r with
  | error e =>
    obtain ⟨a, B, H', cls, d, e1, fl, hok', ub, na, os, ag, T2, e2, e3⟩ := hq
    subst e1 e2
    have hn : ∀ b, Z b → T2.H b = none := fun b z => let ⟨oc, _, q, _⟩ := pinS b z; ub.free b oc q (n2 b z)
    have hB : ∀ b, Z b → ∃ oc : Obj, S.H b = some (pinO b oc) ∧ B.get? b = some oc := fun b z => let ⟨oc, q1, q2, q3⟩ := pinS b z; ⟨oc, q1, ub.keep b oc q2 (n2 b z) q3⟩
    have nza : ¬ Z a := fun z => by
      obtain ⟨oc, _, q⟩ := hB a z
      rw [fl.2.1] at q
      cases q
    have cx : L2.CX X.prog X.w X.stack S.H s (fun c d H => Fly X c d σ H) (.ref a) s' := ⟨a, B, (backW Z S T2).H, cls, d, rfl, fl, back_hok hok' hn hB, back_ub sa hz ub, (ovZ_out nza).trans na, os, ag, e3 hn⟩
    obtain ⟨a, B, sI, pins', σ', H', cls, d, e1, I', nb, up, sky, na, os, ag, e2, fl⟩ := XE.of_call I (W := fun c d σ' H => σ' = σ ∧ Fly X c d σ H) (fun cls d H' h => ⟨rfl, h⟩) cx
    exact fl _ s' ⟨a, B, sI, pins', σ', H', cls, d, e1, I', nb, up, sky, na, os, ag, rfl, rfl, e2, rfl⟩
  | ok fl =>
    cases fl with
    | ret u =>
      obtain ⟨v, H', os, bare, un, hok', rvv, T2, e2, e3⟩ := hq
      subst e2
      have hn : ∀ b, Z b → T2.H b = none := fun b z => let ⟨oc, _, q, _⟩ := pinS b z; un.free b oc q (n2 b z) (by simp)
      have hB : ∀ b, Z b → ∃ oc : Obj, S.H b = some (pinO b oc) ∧ s'.heap.get? b = some oc := fun b z => let ⟨oc, q1, q2, q3⟩ := pinS b z; ⟨oc, q1, un.keep b oc q2 (n2 b z) q3 (by simp)⟩
      exact I.after ⟨v, (backW Z S T2).H, os, bare, back_un sa hz un, back_hok hok' hn hB, rvv, e3 hn⟩
    | next => exact False.elim hq
    | brk => exact False.elim hq
    | cont => exact False.elim hq
end
end DL

set_option maxHeartbeats 4000000
namespace DL
open PySem PySem.Spec PyProof.Rows L2
open LamX (CodeO TabB)
variable [LamTab]
open Classical in
noncomputable def dAsk (rows : List (Nat × DFn)) (i : Nat) (t : DA) : DE := fun e m => match e[i]? with
  | some (some (.clo k ds)) => match rows.lookup k with
    | some G => (t e m).bind fun as m1 => if Cl m1 ∧ belows m1.length ds = true ∧ belows m1.length as = true ∧ as.length + (LamTab.tab k).dds.length = (LamTab.tab k).ps.length ∧ ds.length = (LamTab.tab k).free.length then G (as ++ ((LamTab.tab k).dds.map D.int ++ ds)) m1 else .stuck
    | none => .stuck
  | _ => .stuck
open Classical in
@[simp ↓] theorem dAsk_ap (rows : List (Nat × DFn)) (i : Nat) (t : DA) (e : En) (m : Mu) : dAsk rows i t e m = match e[i]? with
  | some (some (.clo k ds)) => match rows.lookup k with
    | some G => (t e m).bind fun as m1 => if Cl m1 ∧ belows m1.length ds = true ∧ belows m1.length as = true ∧ as.length + (LamTab.tab k).dds.length = (LamTab.tab k).ps.length ∧ ds.length = (LamTab.tab k).free.length then G (as ++ ((LamTab.tab k).dds.map D.int ++ ds)) m1 else .stuck
    | none => .stuck
  | _ => .stuck := rfl
theorem lkN_mem {β : Type} {k : Nat} {v : β} : ∀ {l : List (Nat × β)}, l.lookup k = some v → (k, v) ∈ l
  | [], h => by cases h
  | (a, b) :: l, h => by
    rw [List.lookup_cons] at h
    split at h
    · rename_i e
      have : k = a := by simpa using e
      cases h; subst this; exact List.mem_cons_self
    · exact List.mem_cons_of_mem _ (lkN_mem h)
section
variable {X : Cx} {rows : List (Nat × DFn)} {lv i : Nat} {a : Str} {p1 p2 : Pos} {e : Expr} {es : List Expr} {t : DA}
open Classical in
theorem pd_ask0 (hL : ∀ r ∈ rows, LamOk X.prog X.w X.K X.mg X.base lv r.1 r.2) (hr : Room lv X.A) (hN : X.N[i]? = some a := by rfl) (hv : Vis X.env.scope a := by first | exact Or.inl rfl | exact Or.inr (Or.inl rfl) | exact Or.inr (Or.inr rfl))
    (hd : (a == ("__debug__" : Str)) = false := by decide) (hcd : (a == ("__classdict__" : Str)) = false := by decide) : PDE X (.Call (.Name a p1) [] [] p2) (dAsk rows i dNil) := by
  intro S r m σ Q sa re q pins s I
  unfold dAsk at q
  split at q
  · rename_i k ds he
    split at q
    · rename_i G hG
      have q : PostD X.K S (if Cl m ∧ belows m.length ds = true ∧ belows m.length [] = true ∧ [].length + (LamTab.tab k).dds.length = (LamTab.tab k).ps.length ∧ ds.length = (LamTab.tab k).free.length then G ([] ++ ((LamTab.tab k).dds.map D.int ++ ds)) m else .stuck) Q _ := q
      split at q
      · rename_i hc
        obtain ⟨cl, b1, b2, l1, l2⟩ := hc
        obtain ⟨v, hσ, rv⟩ := re.2 i _ he
        cases rv with
        | @clo _ _ g f vs h1 h2 rds =>
        refine wpAny_Call_Name_kw (thn ((pe_var (pos := p1) (i := i) hN hv hd hcd).run pins s σ S.H (fun v H1 => v = .ref f ∧ H1 = S.H) I ⟨.ref f, hσ, rfl, rfl⟩) fun u s1 ⟨v, H1, I1, r1, ev, eH⟩ => ?_)
        subst ev eH
        obtain rfl : u = Value.ref f := r1
        obtain ⟨o, dV, c', hF, ⟨pm, ctv, ho⟩, _⟩ := id h1
        have hof : s1.heap.get? f = some o := (I1.hok f _ (sa.sub _ _ hF)).1
        rw [ho] at hof
        refine PySem.W.callWith_F0 ⟨_, _, _, _, hof⟩ ?_
        exact run_clo (us := []) (avs := []) (hL _ (lkN_mem hG)) hr I1 sa cl h1 h2 rds b1 .nil b2 .nil l1 l2 q
      · exact q.elim
    · exact q.elim
  · exact q.elim
end
def slotV (e : En) : List Nat → Option (List D)
  | [] => some []
  | i :: r => match e[i]? with
    | some (some d) => match slotV e r with
      | some ds => some (d :: ds)
      | none => none
    | _ => none
mutual
def closeD (rows : List (Nat × List Nat)) (g : List (Str × Addr)) (e : En) : D → Option D
  | .lam k g' => match rows.lookup k with
    | some sl => if g' = cloFrom g (LamTab.tab k).scope.names [] then match slotV e sl with
        | some ds => some (.clo k ds)
        | none => none
      else none
    | none => none
  | .lst ds => match closeDs rows g e ds with
    | some xs => some (.lst xs)
    | none => none
  | .tup ds => match closeDs rows g e ds with
    | some xs => some (.tup xs)
    | none => none
  | d => some d
def closeDs (rows : List (Nat × List Nat)) (g : List (Str × Addr)) (e : En) : List D → Option (List D)
  | [] => some []
  | d :: ds => match closeD rows g e d with
    | some x => match closeDs rows g e ds with
      | some xs => some (x :: xs)
      | none => none
    | none => none
end
open Classical in
noncomputable def closeR (r : Res D) : Res D := match r with
  | .ok d m => if Cl m ∧ below m.length d = true then .ok d m else .stuck
  | .exc C fs m => if Cl m ∧ belows m.length (fs.map (·.2)) = true then .exc C fs m else .stuck
  | .stuck => .stuck
noncomputable def dFunL (rows : List (Nat × List Nat)) (g : List (Str × Addr)) (G : DFn) (t : DA) : DE := fun e m => (t e m).bind fun ds m1 => match closeDs rows g e ds with
  | some xs => closeR (G xs m1)
  | none => .stuck
@[simp ↓] theorem dFunL_ap (rows : List (Nat × List Nat)) (g : List (Str × Addr)) (G : DFn) (t : DA) (e : En) (m : Mu) : dFunL rows g G t e m = (t e m).bind fun ds m1 => match closeDs rows g e ds with
  | some xs => closeR (G xs m1)
  | none => .stuck := rfl
def lamRowB (N : List Str) (sc : Scope) (t : LamT) (sl : List Nat) : Bool := decide (sl.map (fun j => N[j]?) = t.free.map some) && (t.free.all (fun y => decide ((y, NameKind.free) ∈ t.scope.names)) && lamFree sc t.scope t.free)
section
variable {X : Cx} {pins : List (Addr × Obj)} {σ : L2.St} {S : Wd} {m : Mu} {s : Shared} {rows : List (Nat × List Nat)} {e : En}
def celZ (X : Cx) (h : Heap) (b : Addr) : Prop := ∃ (y : Str) (oc : Obj) (u : Value), X.env.cells.lookup y = some b ∧ h.get? b = some oc ∧ oc.data = .cell (some u)
def celP (h : Heap) : Hp := fun b => match h.get? b with
  | some oc => some (pinO b oc)
  | none => none
theorem slot_reps {K : PySem.W.Frag} {i : List Addr} {F : Hp} {e : En} {σ : L2.St} (re : ∀ (j : Nat) d, e[j]? = some (some d) → ∃ v, σ[j]? = some (some v) ∧ Rep K i F d v) : ∀ {sl : List Nat} {ds : List D}, slotV e sl = some ds → ∃ vs, Reps K i F ds vs ∧ ∀ (n j : Nat), sl[n]? = some j → ∃ v, σ[j]? = some (some v) ∧ vs[n]? = some v
  | [], ds, h => by cases h; exact ⟨[], .nil, fun n j q => by simp at q⟩
  | a :: sl, ds, h => by
    unfold slotV at h
    split at h
    · rename_i d hd
      split at h
      · rename_i ds' hs
        cases h
        obtain ⟨vs, h1, h2⟩ := slot_reps re hs
        obtain ⟨v, h3, h4⟩ := re a d hd
        refine ⟨v :: vs, .cons h4 h1, fun n j q => ?_⟩
        cases n with
        | zero => simp at q; subst q; exact ⟨v, h3, rfl⟩
        | succ n => exact h2 n j (by simpa using q)
      · cases h
    · cases h
theorem clo_ok (I : Inv X pins σ S.H s) (sa : Sta X.K S m) (re : RelE X.K S e σ) (hn : ∀ b, celZ X s.heap b → S.H b = none) (hrows : ∀ r ∈ rows, lamRowB X.N X.env.scope (LamTab.tab r.1) r.2 = true) {k : Nat} {g' : List (Str × Addr)} {a : Addr} {sl : List Nat} {ds : List D}
    (h : LamAt S.F (LamTab.tab k) g' a) (hk : rows.lookup k = some sl) (hg : g' = cloFrom X.env.cells (LamTab.tab k).scope.names []) (hs : slotV e sl = some ds) : Rep X.K S.i (inW (celZ X s.heap) (celP s.heap) S).F (.clo k ds) (.ref a) := by
  have hb := hrows _ (lkN_mem hk)
  unfold lamRowB at hb
  simp only [Bool.and_eq_true, decide_eq_true_eq, List.all_eq_true] at hb
  obtain ⟨b1, b2, b3⟩ := hb
  have ex := in_ext (pf := celP s.heap) sa hn
  obtain ⟨vs, r1, r2⟩ := slot_reps (K := X.K) (i := S.i) (F := S.F) re.2 hs
  refine Rep.clo (h.ext ex) (fun i y v e1 e2 => ?_) (r1.mono (List.prefix_refl _) ex)
  have hsl : (sl.map fun j => X.N[j]?)[i]? = some (some y) := by rw [b1, List.getElem?_map, e1]; rfl
  rw [List.getElem?_map] at hsl
  cases hj : sl[i]? with
  | none => rw [hj] at hsl; cases hsl
  | some j =>
    rw [hj] at hsl
    have hNy : X.N[j]? = some y := Option.some.inj hsl
    obtain ⟨v', h1, h2⟩ := r2 i j hj
    rw [e2] at h2
    cases h2
    have hmem := b2 y (List.mem_of_getElem? e1)
    obtain ⟨z0, c0, hc0⟩ := lam_has I.ok b3 _ hmem rfl
    have hc0 : X.env.cells.lookup y = some c0 := hc0
    have hvis : X.env.scope.names.lookup y = some .cell ∨ X.env.scope.names.lookup y = some .free := by
      unfold lamFree at b3
      have z := List.all_eq_true.mp b3 _ hmem
      simp only [Bool.or_eq_true, Bool.and_eq_true, Bool.not_eq_true', decide_eq_true_eq, decide_eq_false_iff_not] at z
      rcases z with z | ⟨_, z⟩
      · exact absurd trivial z
      · exact z
    obtain ⟨mm, hns, hl⟩ := I.loc
    obtain ⟨u, ru, look⟩ := hl j y v hNy h1 (hvis.elim (fun k => .inr (.inl k)) fun k => .inr (.inr k))
    rcases look with ⟨k', _⟩ | ⟨_, c, e', oc, ho, hd⟩
    · have k' : X.env.scope.names.lookup y = some .local := k'
      rcases hvis with q | q <;> rw [q] at k' <;> cases k'
    · refine ⟨c, oc, u, ?_, ?_, hd, ru⟩
      · obtain ⟨c2, hc2⟩ := mem_lookup (cloFrom_has (cells := X.env.cells) (acc := []) hmem)
        rw [hg, hc2]
        have := (lam_clo I.ok b3 hc2).2
        rw [e'] at this
        exact this.symm
      · have z : celZ X s.heap c := ⟨y, oc, u, e', ho, hd⟩
        refine (ovZ_in z).trans ?_
        unfold celP
        rw [ho]
mutual
theorem close_ok (I : Inv X pins σ S.H s) (sa : Sta X.K S m) (re : RelE X.K S e σ) (hn : ∀ b, celZ X s.heap b → S.H b = none) (hrows : ∀ r ∈ rows, lamRowB X.N X.env.scope (LamTab.tab r.1) r.2 = true) : ∀ {d : D} {v : V} {d' : D}, Rep X.K S.i S.F d v → closeD rows X.env.cells e d = some d' → Rep X.K S.i (inW (celZ X s.heap) (celP s.heap) S).F d' v
  | _, _, _, .non, h => by unfold closeD at h; cases h; exact .non
  | _, _, _, .bl b, h => by unfold closeD at h; cases h; exact .bl b
  | _, _, _, .int i, h => by unfold closeD at h; cases h; exact .int i
  | _, _, _, .str x, h => by unfold closeD at h; cases h; exact .str x
  | _, _, _, .tup h1 r, h => by
    unfold closeD at h
    split at h
    · rename_i xs hx
      cases h
      exact .tup (SqT.ext' h1 (in_ext sa hn)) (closes_ok I sa re hn hrows r hx)
    · cases h
  | _, _, _, .lst h1 r, h => by
    unfold closeD at h
    split at h
    · rename_i xs hx
      cases h
      exact .lst (SqL.ext' h1 (in_ext sa hn)) (closes_ok I sa re hn hrows r hx)
    · cases h
  | _, _, _, .obj h1 h2 r, h => by unfold closeD at h; cases h; exact (Rep.obj h1 h2 r).mono (List.prefix_refl _) (in_ext sa hn)
  | _, _, _, .loc h1, h => by unfold closeD at h; cases h; exact .loc h1
  | _, _, _, .val v, h => by unfold closeD at h; cases h; exact .val v
  | _, _, _, .xob h1 h2 r, h => by unfold closeD at h; cases h; exact (Rep.xob h1 h2 r).mono (List.prefix_refl _) (in_ext sa hn)
  | _, _, _, .lam h1, h => by
    unfold closeD at h
    split at h
    · rename_i sl hk
      split at h
      · rename_i hg
        split at h
        · rename_i ds hs
          cases h
          exact clo_ok I sa re hn hrows h1 hk hg hs
        · cases h
      · cases h
    · cases h
  | _, _, _, .clo h1 h2 r, h => by unfold closeD at h; cases h; exact (Rep.clo h1 h2 r).mono (List.prefix_refl _) (in_ext sa hn)
theorem closes_ok (I : Inv X pins σ S.H s) (sa : Sta X.K S m) (re : RelE X.K S e σ) (hn : ∀ b, celZ X s.heap b → S.H b = none) (hrows : ∀ r ∈ rows, lamRowB X.N X.env.scope (LamTab.tab r.1) r.2 = true) : ∀ {ds : List D} {vs : List V} {xs : List D}, Reps X.K S.i S.F ds vs → closeDs rows X.env.cells e ds = some xs → Reps X.K S.i (inW (celZ X s.heap) (celP s.heap) S).F xs vs
  | _, _, _, .nil, h => by unfold closeDs at h; cases h; exact .nil
  | _, _, _, .cons h1 r, h => by
    unfold closeDs at h
    split at h
    · rename_i x hx
      split at h
      · rename_i xs hxs
        cases h
        exact .cons (close_ok I sa re hn hrows h1 hx) (closes_ok I sa re hn hrows r hxs)
      · cases h
    · cases h
end
theorem run_fnL {k : Nat} {f : Addr} {fd : FuncData} {ps : List Str} {G : DFn} {dds : List D} {Q : VK} {us : List Value} {vs : List V} {das xs : List D} (F : FnD X.prog X.w X.K X.mg X.base k f fd ps G) (hr : Room k X.A) (hb : Bd X.K fd ps dds) (hfn : ∀ y, X.fn y = true)
    (I : Inv X pins σ S.H s) (sa : Sta X.K S m) (re : RelE X.K S e σ) (hrows : ∀ r ∈ rows, lamRowB X.N X.env.scope (LamTab.tab r.1) r.2 = true) (r : Reps X.K S.i S.F das vs) (rv : Vals vs us) (hc : closeDs rows X.env.cells e das = some xs)
    (h : PostD X.K S (closeR (padF ps.length dds G xs m)) Q (fun c d H => Fly X c d σ H)) : wpAny (model X.prog X.w) X.A (call (.ref f) us) (EP X pins σ Q) X.xe s := by
  have hn : ∀ b, celZ X s.heap b → S.H b = none := fun b ⟨y, oc, u, h1, h2, h3⟩ => I.freeC y b h1
  have hnew : ∀ b, celZ X s.heap b → X.s_0.heap.objs.size ≤ b := fun b ⟨y, oc, u, h1, h2, h3⟩ => I.ok.cab y b (hfn y) h1
  have hp : ∀ b, celZ X s.heap b → ∃ oc : Obj, celP s.heap b = some (pinO b oc) ∧ s.heap.get? b = some oc := fun b ⟨y, oc, u, h1, h2, h3⟩ => ⟨oc, by unfold celP; rw [h2], h2⟩
  have hpin : ∀ b, celZ X s.heap b → IsPin (celP s.heap) b := fun b ⟨y, oc, u, h1, h2, h3⟩ => ⟨oc, u, by unfold celP; rw [h2], h3⟩
  have rx := closes_ok I sa re hn hrows r hc
  have saX : Sta X.K (inW (celZ X s.heap) (celP s.heap) S) m := in_sta sa hn
  have e := I.env0
  have nfr : ∀ b ∈ frs X.stack, ¬ celZ X s.heap b := fun b hm z => by
    rcases List.mem_cons.mp (I.stkSub b hm) with q | q
    · obtain ⟨y, oc, u, h1, _⟩ := z
      exact I.cne y b h1 q
    · obtain ⟨_, o, ho, _⟩ := I.ok.funs.mem q
      exact Nat.lt_irrefl _ (Nat.lt_of_lt_of_le (Heap.lt_size ho) (hnew b z))
  have e1 : Env0 X.prog X.w X.K X.mg X.base X.A X.stack s (inW (celZ X s.heap) (celP s.heap) S).H := by
    refine ⟨e.frames, e.mod, fun b o q => ⟨(e.bs b o q).1, ?_⟩, e.bsz, e.funs, fun b hb => ?_, in_hok I.hok hn hp, e.bare⟩
    · have z : ¬ celZ X s.heap b := fun z => Nat.lt_irrefl _ (Nat.lt_of_lt_of_le (Heap.lt_size q) (Nat.le_trans I.ok.bsz (hnew b z)))
      exact (ovZ_out z).trans (e.bs b o q).2
    · exact (ovZ_out (nfr b hb)).trans (e.frf b hb)
  unfold padF at h
  split at h
  · rename_i hl
    obtain ⟨ds, dvs, hb, hd, hD⟩ := hb.ex
    have r1 : Reps X.K S.i (inW (celZ X s.heap) (celP s.heap) S).F (xs ++ dds) (vs ++ dvs) := rx.append (hD _ _)
    have r2 : Vals (vs ++ dvs) (us ++ ds) := rv.append hd
    have hlv : (vs ++ dvs).length = ps.length := by rw [← r1.len]; exact hl
    have hl2 : (us ++ ds).length = ps.length := by rw [← r2.length]; exact hlv
    have pR : PostD X.K (inW (celZ X s.heap) (celP s.heap) S) (G (xs ++ dds) m)
        (fun v H' => ∃ T : Wd, H' = T.H ∧ (∀ b, celZ X s.heap b → T.H b = celP s.heap b) ∧ ∀ h2, HOk X.prog X.w T.H h2 → HOk X.prog X.w (T.rem (celZ X s.heap)).H h2 ∧ Q v (T.rem (celZ X s.heap)).H)
        (fun c d H' => ∃ T : Wd, H' = T.H ∧ (∀ b, celZ X s.heap b → T.H b = celP s.heap b) ∧ ∀ h2, HOk X.prog X.w T.H h2 → HOk X.prog X.w (T.rem (celZ X s.heap)).H h2 ∧ Fly X c d σ (T.rem (celZ X s.heap)).H) := by
      have key : ∀ {T : Wd}, Stp (inW (celZ X s.heap) (celP s.heap) S) T → (∀ b, celZ X s.heap b → IsPin T.F b) ∧ ∀ b, celZ X s.heap b → T.F b = celP s.heap b := fun {T} st => by
        have z : ∀ b, celZ X s.heap b → T.F b = celP s.heap b := fun b z => by
          obtain ⟨oc, q, _⟩ := hp b z
          rw [q]
          exact st.ext _ _ ((ovZ_in z).trans q)
        exact ⟨fun b hz => by obtain ⟨oc, u, q1, q2⟩ := hpin b hz; exact ⟨oc, u, (z b hz).trans q1, q2⟩, z⟩
      cases q : G (xs ++ dds) m with
      | stuck => rw [q] at h; exact h.elim
      | ok d m2 =>
        rw [q] at h
        unfold closeR at h
        dsimp only at h
        split at h
        · rename_i hcl
          intro v T st saT rd
          obtain ⟨k1, k2⟩ := key st
          refine ⟨T, rfl, fun b z => ?_, fun h2 hok2 => ⟨rem_hok hok2 saT k1, h v _ (out_stp sa hn hpin st) (rem_sta saT hcl.1 hok2 k1) (rd.remZ k1 hcl.2)⟩⟩
          obtain ⟨oc, q1, _⟩ := hp b z
          exact (saT.sub _ _ ((k2 b z).trans q1)).trans q1.symm
        · exact h.elim
      | exc C fs m2 =>
        rw [q] at h
        unfold closeR at h
        dsimp only at h
        split at h
        · rename_i hcl
          intro dd ws T st hnd saT h1 h2
          obtain ⟨k1, k2⟩ := key st
          have nz : ¬ celZ X s.heap dd := fun z => by
            obtain ⟨oc, q1, _⟩ := hp dd z
            rw [show (inW (celZ X s.heap) (celP s.heap) S).H dd = _ from (ovZ_in z).trans q1] at hnd
            cases hnd
          refine ⟨T, rfl, fun b z => ?_, fun hh hok2 => ⟨rem_hok hok2 saT k1, h dd ws _ (out_stp sa hn hpin st) ((ovZ_out nz).symm.trans hnd) (rem_sta saT hcl.1 hok2 k1) ((remZ_out nz).trans h1) (RepF.join h2.split.1 (h2.split.2.remZ k1 hcl.2))⟩⟩
          obtain ⟨oc, q1, _⟩ := hp b z
          exact (saT.sub _ _ ((k2 b z).trans q1)).trans q1.symm
        · exact h.elim
    refine wpAny_call (codeAny_mono (F.run X.A X.stack s _ ⟨us, []⟩ (us ++ ds) (vs ++ dvs) _ _ hr e1 (hb s us I.kIn hl2) r2 ⟨hlv, _, m, _, rfl, saX, r1, pR⟩) fun r s' hq => ?_)
    cases r with
    | error er =>
      obtain ⟨a, B, H', cls, d, q1, fl, hok', ub, na, os, ag, T, q2, q3, q4⟩ := hq
      subst q1 q2
      obtain ⟨q5, q6⟩ := q4 B hok'
      have na2 : (T.rem (celZ X s.heap)).H a = none := by
        by_cases z : celZ X s.heap a
        · exact remZ_in z
        · exact (remZ_out z).trans na
      have cx : L2.CX X.prog X.w X.stack S.H s (fun c d H => Fly X c d σ H) (.ref a) s' := ⟨a, B, (T.rem (celZ X s.heap)).H, cls, d, rfl, fl, q5, out_ub hn hp q3 hok' ub, na2, os, ag, q6⟩
      obtain ⟨a, B, sI, pins', σ', H', cls, d, e1, I', nb, up, sky, na, os, ag, e2, fl⟩ := XE.of_call I (W := fun c d σ' H => σ' = σ ∧ Fly X c d σ H) (fun cls d H' h => ⟨rfl, h⟩) cx
      exact fl _ s' ⟨a, B, sI, pins', σ', H', cls, d, e1, I', nb, up, sky, na, os, ag, rfl, rfl, e2, rfl⟩
    | ok fl =>
      cases fl with
      | ret u =>
        obtain ⟨v, H', os, bare, un, hok', rvv, T, q2, q3, q4⟩ := hq
        subst q2
        obtain ⟨q5, q6⟩ := q4 s'.heap hok'
        exact I.after ⟨v, (T.rem (celZ X s.heap)).H, os, bare, out_un hn hp q3 hok' un, q5, rvv, q6⟩
      | next => exact False.elim hq
      | brk => exact False.elim hq
      | cont => exact False.elim hq
  · exact h.elim
theorem pd_funL {k : Nat} {G : DFn} {x : Str} {p pos : Pos} {a : Expr} {es : List Expr} {t : DA} (F : FT X.prog X.w X.K X.mg X.base k x G) (hr : Room k X.A) (hrows : ∀ r ∈ rows, lamRowB X.N X.env.scope (LamTab.tab r.1) r.2 = true) (ha : PDA X (a :: es) t) (hfn : ∀ y, X.fn y = true := by intro _; rfl)
    (hg : Gl X x := by rfl) (hdb : (x == ("__debug__" : Str)) = false := by decide) (he : starEach (a :: es) X.env = (false, eval a X.env) :: starEach es X.env := by exact se_cons _ _ _ rfl) (hpl : (backTo pos (starEach es X.env)).any (·.1) = false := by exact se_any _ _ _ rfl) :
    PDE X (.Call (.Name x p) (a :: es) [] pos) (dFunL rows X.env.cells G t) := by
  obtain ⟨f, fd, ps, dds, G0, hm, hk, hf, hb, rfl⟩ := F.ex
  intro S r m σ Q sa re q pins s I
  refine wpAny_Call_Name_kw (ld_glob I hg hm ?_ hdb)
  refine PySem.W.callWith_K (h₀ := X.base) I.ok.mod.kin hk (thn (ha.run sa re q I pos) ?_) he hpl
  rintro us s1 ⟨vs, ds, m1, T, st, sa1, rds, rv, I1, q1⟩
  refine ⟨I1.kIn, ?_⟩
  split at q1
  · rename_i xs hx
    exact run_fnL hf hr hb hfn I1 sa1 (re.stp st) hrows rds rv hx q1
  · exact q1.elim
end
open Classical in
noncomputable def allG (f : List (Str × Addr) → Res D) : Res D := if h : ∃ r, ∀ g, f g = r then h.choose else .stuck
theorem allG_eq {f : List (Str × Addr) → Res D} {r : Res D} (h : ∀ g, f g = r) : allG f = r := by
  unfold allG
  have e : ∃ r, ∀ g, f g = r := ⟨r, h⟩
  rw [dif_pos e]
  rw [← e.choose_spec []]
  exact h []
theorem allG_post {K : PySem.W.Frag} {S : Wd} {Q : VK} {W : XK} {f : List (Str × Addr) → Res D} (h : PostD K S (allG f) Q W) (g : List (Str × Addr)) : PostD K S (f g) Q W := by
  unfold allG at h
  by_cases e : ∃ r, ∀ g, f g = r
  · rw [dif_pos e] at h
    rw [e.choose_spec g]
    exact h
  · rw [dif_neg e] at h
    exact h.elim
def funCode (K : PySem.W.Frag) (f : Addr) : Value := match K.lookup f with
  | some ⟨_, _, .func fd, _⟩ => fd.code
  | _ => .none
section
variable {P : Program} {w : World} {K : PySem.W.Frag} {mg : Str → Option Value} {base : Heap}
theorem fnDG_of {x qual : Str} {params : Arguments} {body : List Stmt} {scope : Scope} {dvs : List V} {kws : List (Str × V)} {f : Addr} {fd : FuncData} {N ps : List Str} {k : Nat} {c : Addr} {t : List (Str × Addr) → DS} (F : FunD K x qual params body scope dvs kws f fd) (S : FnScope N ps scope) (hc : funCode K f = .ref c)
    (h : ∀ (A : Around) (outer : List Env) (s : Shared) (H : Hp) (E : XK), Room k (A.deeper (envOfC qual scope s.heap.objs.size f (.ref c))) → PDSs (cxOf (L2.CX P w) P w K mg base N qual scope f (.ref c) A outer s H E) body (t (cxOf (L2.CX P w) P w K mg base N qual scope f (.ref c) A outer s H E).env.cells)) :
    FnD P w K mg base (k + 1) f fd ps fun ds m => allG fun g => dFn N.length (t g) ds m := by
  obtain ⟨oc, od, dV, kV, doc, pm, an, cdv, ct, osl, rfl, lk, hcd, h5, h6⟩ := id F.ex
  have ec : cdv = .ref c := by
    unfold funCode at hc
    rw [lk] at hc
    exact hc
  subst ec
  refine fn_of lk hcd S (fun vs H Q E h => h.1) fun A outer s H vs Q E hr hsp => ⟨_, mxSs _ body, ?_⟩
  obtain ⟨_, T, m, ds, rfl, sa, rd, p⟩ := hsp
  have p := allG_post p (cxOf (L2.CX P w) P w K mg base N qual scope f (.ref c) A outer s T.H E).env.cells
  refine h A outer s T.H E hr T (env0 N.length ds) m (L2.start N vs) _ sa (relE_start rd) ?_
  have tk : Takes (cxOf (L2.CX P w) P w K mg base N qual scope f (.ref c) A outer s T.H E) (fun cls d _ H => E cls d H) := takes_of rfl rfl rfl rfl
  unfold dFn at p
  generalize (cxOf (L2.CX P w) P w K mg base N qual scope f (.ref c) A outer s T.H E).env.cells = g at p ⊢
  cases q : t g (env0 N.length ds) m with
  | stuck => rw [q] at p; exact p.elim
  | nx e m1 => rw [q] at p; exact fun σ U st sa1 re => p .non U st sa1 .non
  | rt d m1 => rw [q] at p; exact fun v U st sa1 r1 => p v U st sa1 r1
  | bk e m1 => rw [q] at p; exact p.elim
  | ct e m1 => rw [q] at p; exact p.elim
  | exc C fs e m1 => rw [q] at p; exact fun dd vs σ U st hn sa1 re h1 h2 => Fly.of tk (p dd vs U st hn sa1 h1 h2)
end
end DL

namespace DL
open PySem PySem.Spec L2
variable [LamTab]
section
variable {rows : List (Kl × DFn × List Tg)} {m : Mu} {n : Nat}
end
end DL
namespace DL
open PySem PySem.Spec L2
variable [LamTab]
section
variable {m : Mu} {g : DG} {c : DT} {b : DE} {e : En}
theorem compL_of {α : Type} {F f : α → D} {p : α → Bool} : ∀ (xs : List α) (acc : List D), (∀ x ∈ xs, ∃ e1, g (F x) e = some e1 ∧ c e1 m = .ok (p x) m ∧ (p x = true → b e1 m = .ok (f x) m)) → acc.length + xs.length ≤ sizeLine →
    dCompL g c b e (xs.map F) m acc = .ok (acc ++ (xs.filter p).map f) m
  | [], acc, _, _ => by simp
  | x :: xs, acc, h, hl => by
    obtain ⟨e1, h1, h2, h3⟩ := h x (by simp)
    rw [List.map_cons]
    unfold dCompL
    rw [h1]
    simp only [h2]
    cases hp : p x with
    | true =>
      have ih := compL_of xs (acc ++ [f x]) (fun y hy => h y (by simp [hy])) (by simp at hl ⊢; omega)
      simp only [h3 hp]
      rw [if_pos (by simp at hl; omega), ih]
      simp [hp]
    | false =>
      have ih := compL_of xs acc (fun y hy => h y (by simp [hy])) (by simp at hl ⊢; omega)
      simp only []
      rw [ih]
      simp [hp]
end
end DL
namespace DL
variable [LamTab]
theorem dLoop_step {g : DG} {b : DS} {d : D} {ds : List D} {e e1 e2 : En} {m m2 : Mu} (h1 : g d e = some e1) (h2 : b e1 m = .nx e2 m2) : dLoop g b (d :: ds) e m = dLoop g b ds e2 m2 := by
  rw [dLoop.eq_def]
  simp only [h1, h2]
end DL
namespace DL
open PySem PySem.Spec L2
variable [LamTab]
end DL

namespace DL
open PySem PySem.Spec PyProof.Rows L2
variable [LamTab]
theorem DefK.funD {K : PySem.W.Frag} {d : DefK} (e : fnK K (d.ad.at_ K) = d.seen) (c : d.okB K = true) : ∃ fd, FunD K d.name d.qual d.params d.body d.scope d.dfl d.kws (d.ad.at_ K) fd := by
  obtain ⟨kp, c1⟩ := He.ba c
  unfold fnK at e
  cases q : K.lookup (d.ad.at_ K) with
  | none => rw [q] at c1; cases c1
  | some o =>
    obtain ⟨oc, od, dt, osl⟩ := o
    rw [q] at c1 e
    cases dt with
    | func g =>
      obtain ⟨m1, m2, m3, m4, m5, m6, m7, m8, m9, m10, m11, m12, m13, m14, m15⟩ := g
      have z : (some (m1, m2, m3, m4, m5, m6, m7, m15) : FnK) = some (d.name, d.qual, d.params, .stmts d.body, d.scope, mainGlobals, [], builtinsNs) := e
      simp only [Option.some.injEq, Prod.mk.injEq] at z
      obtain ⟨a1, a2, a3, a4, a5, a6, a7, a8⟩ := z
      subst a1 a2 a3 a4 a5 a6 a7 a8
      obtain ⟨k1, k2⟩ := He.ba (show (PySem.W.codeIn K m13 d.qual && (He.dflB K m8 d.dfl && He.kwdB K m9 d.kws)) = true from c1)
      obtain ⟨k2, k3⟩ := He.ba k2
      exact ⟨_, ⟨oc, od, m8, m9, m10, m11, m12, m13, m14, osl, rfl, q, k1, He.dflB_ok k2, He.kwdB_ok k3⟩, kp⟩
    | _ => cases c1
section
variable {fs : List (PySem.W.Frag → Bool)} {ds : List DefK} {K : PySem.W.Frag}
theorem SaysK.fact (c : SaysK fs ds K) (i : Nat) {f : PySem.W.Frag → Bool} (h : fs[i]? = some f := by rfl) : f K = true :=
  List.all_eq_true.mp (He.ba (show ((fs.all fun f => f K) && ds.all fun d => d.okB K) = true from congrArg Prod.fst c)).1 f (List.mem_of_getElem? h)
theorem SaysK.df (c : SaysK fs ds K) (i : Nat) {d : DefK} (h : ds[i]? = some d := by rfl) : ∃ fd, FunD K d.name d.qual d.params d.body d.scope d.dfl d.kws (d.ad.at_ K) fd := by
  have c2 := (He.ba (show ((fs.all fun f => f K) && ds.all fun d => d.okB K) = true from congrArg Prod.fst c)).2
  have e : (ds.map fun d => fnK K (d.ad.at_ K))[i]? = (ds.map DefK.seen)[i]? := congrArg (fun z : AlK => z.2[i]?) c
  rw [List.getElem?_map, List.getElem?_map, h] at e
  exact DefK.funD (Option.some.inj e) (List.all_eq_true.mp c2 d (List.mem_of_getElem? h))
end
end DL

set_option maxHeartbeats 4000000
namespace DL
open PySem PySem.Spec PyProof.Rows L2
open LamX (TabB)
variable [LamTab]
theorem roomH_mark {k : Nat} {A : Around} {h : Option Value} (r : Room k A) : L2H.RoomH k (A.mark h) := ⟨r.dp, r.un⟩
theorem _root_.L2H.RoomH.units {k : Nat} {A : Around} (r : L2H.RoomH k A) : A.units + 64 < cLine := by have := r.un; omega
theorem LamOk.mono {P : Program} {w : World} {K : PySem.W.Frag} {mg : Str → Option Value} {base : Heap} {j k n : Nat} {G : DFn} (h : LamOk P w K mg base j n G) (hk : j ≤ k) : LamOk P w K mg base k n G :=
  ⟨fun A outer s f c' g pm ctv dV us ud avs fvs S m ads fds Q E hr => h.run A outer s f c' g pm ctv dV us ud avs fvs S m ads fds Q E (hr.mono hk)⟩
theorem getD_get {vs : Array Value} {i : Nat} {v : Value} (h : vs.getD i .none = v) (hi : i < vs.size) : vs[i]? = some v := by
  rw [Array.getD_eq_getD_getElem?] at h
  rw [Array.getElem?_eq_getElem hi] at h ⊢
  exact congrArg some h
theorem codeB_ok {K : PySem.W.Frag} {f : Addr} (h : codeB K f = true) : funCode K f = .ref (codeA K f) ∧ K.lookup (tabA K f) = none ∧ ∀ hp : Heap, K.In hp → PySem.W.CodeHd hp (codeA K f) (tabA K f) := by
  have e0 : funCode K f = funCodeA K f := rfl
  unfold codeB at h
  split at h
  · rename_i c hc
    have ec : codeA K f = c := by unfold codeA; rw [hc]
    split at h
    · rename_i t od vs sl hK
      obtain ⟨h1, h⟩ := He.ba h
      split at h
      · rename_i P file tf flags tg inF text tt g1 g2 g3 g4 g5
        obtain ⟨h2, h⟩ := He.ba h
        obtain ⟨h3, h4⟩ := He.ba h
        have eP : tabA K f = P := by
          unfold tabA
          rw [ec, hK]
          dsimp only
          rw [g1]
        rw [ec, eP]
        refine ⟨e0.trans hc, by simpa using h4, fun hp X => ⟨_, vs, file, tf, flags, tg, inF, text, tt, X _ _ hK, ?_, rfl, getD_get g1 (of_decide_eq_true h2), g1, g2, g3, g4, g5, of_decide_eq_true h3⟩⟩
        show Value.type t = .type "code"
        rw [of_decide_eq_true h1]
      · cases h
    · cases h
  · cases h
theorem fileB_ok {K : PySem.W.Frag} {file : Str} {v : Value} (h : fileB K file v = true) : ∃ (c : Addr) (ccl : Value) (cdd : Option Addr) (vs : Array Value) (ccs : Array (Option Value)) (f : Str) (tf : Tok), v = .ref c ∧ K.lookup c = some ⟨ccl, cdd, .fields vs, ccs⟩ ∧ vs[2]? = some (.str f tf) ∧ (file == f) = true := by
  unfold fileB at h
  split at h
  · rename_i c
    split at h
    · rename_i ccl cdd vs ccs hc
      split at h
      · rename_i f tf hv
        obtain ⟨k4, k5⟩ := He.ba h
        exact ⟨c, ccl, cdd, vs, ccs, f, tf, rfl, hc, getD_get hv (of_decide_eq_true k4), k5⟩
      · cases h
    · cases h
  · cases h
theorem DefS.funS {P : Program} {K : PySem.W.Frag} {d : DefS} (hf : d.file = P.main.file) (e : fnKS K (d.ad.at_ K) = d.seen) (c : d.okB K = true) : ∃ fd, FunS P K d.name d.qual d.params d.body d.scope [] (d.ad.at_ K) fd (He.ga K d.cl) (celA K (d.ad.at_ K)) := by
  obtain ⟨kp, c⟩ := He.ba c
  obtain ⟨cc, c1⟩ := He.ba c
  have hcell : ∃ cl cld csl, K.lookup (celA K (d.ad.at_ K)) = some ⟨cl, cld, .cell (some (.ref (He.ga K d.cl))), csl⟩ ∧ ∃ cdD, PySem.W.clsIn K (He.ga K d.cl) = some cdD := by
    split at cc
    · rename_i cl cld D csl hK
      obtain ⟨h1, h2⟩ := He.ba cc
      have h1 := of_decide_eq_true h1
      subst h1
      exact ⟨cl, cld, csl, hK, Option.isSome_iff_exists.mp h2⟩
    · cases cc
  obtain ⟨cl, cld, csl, hK, hD⟩ := hcell
  unfold fnKS at e
  cases q : K.lookup (d.ad.at_ K) with
  | none => rw [q] at c1; cases c1
  | some o =>
    obtain ⟨oc, od, dt, osl⟩ := o
    rw [q] at c1 e
    cases dt with
    | func g =>
      obtain ⟨m1, m2, m3, m4, m5, m6, m7, m8, m9, m10, m11, m12, m13, m14, m15⟩ := g
      have z : (some (m1, m2, m3, m4, m5, m6, m7.map (·.1), m15) : FnKS) = some (d.name, d.qual, d.params, FuncBody.stmts d.body, d.scope, mainGlobals, [("__class__" : Str)], builtinsNs) := e
      simp only [Option.some.injEq, Prod.mk.injEq] at z
      obtain ⟨a1, a2, a3, a4, a5, a6, a7, a8⟩ := z
      subst a1 a2 a3 a4 a5 a6 a8
      obtain ⟨x, hx⟩ : ∃ x, m7 = [(("__class__" : Str), x)] := by
        cases m7 with
        | nil => cases a7
        | cons p r =>
          cases r with
          | nil =>
            obtain ⟨p1, p2⟩ := p
            have : p1 = ("__class__" : Str) := (List.cons.inj a7).1
            subst this
            exact ⟨p2, rfl⟩
          | cons p2 r => simp at a7
      subst hx
      have ex : celA K (d.ad.at_ K) = x := by unfold celA; rw [q]
      obtain ⟨k1, k⟩ := He.ba (show (PySem.W.codeIn K m13 d.qual && (He.dflB K m8 [] && fileB K d.file m13)) = true from c1)
      obtain ⟨k2, k3⟩ := He.ba k
      obtain ⟨cda, ccl, cdd, vs, ccs, file, tf, rfl, hc, hv, k5⟩ := fileB_ok k3
      rw [ex]
      exact ⟨_, ⟨oc, od, m8, m9, m10, m11, m12, cda, m14, osl, rfl, q, k1, He.dflB_ok k2, ccl, cdd, vs, ccs, file, tf, hc, hv, by rw [← hf]; exact k5⟩, ⟨cl, cld, csl, by rw [← ex]; exact hK⟩, hD, kp⟩
    | _ => cases c1
section
variable {q : Hd} {h : Heap} {K : PySem.W.Frag}
theorem Hd.Says.fact (c : q.Says h K) (i : Nat) {f : PySem.W.Frag → Bool} (e : q.fs[i]? = some f := by rfl) : f K = true := c.fs f (List.mem_of_getElem? e)
theorem Hd.Says.df (c : q.Says h K) (i : Nat) {d : DefK} (e : q.ds[i]? = some d := by rfl) : ∃ fd, FunD K d.name d.qual d.params d.body d.scope d.dfl d.kws (d.ad.at_ K) fd := by
  have z := congrArg (fun l : List FnK => l[i]?) c.dk
  rw [List.getElem?_map, List.getElem?_map, e] at z
  exact DefK.funD (Option.some.inj z) (c.ds d (List.mem_of_getElem? e))
theorem Hd.Says.sf {P : Program} (c : q.Says h K) (i : Nat) {d : DefS} (hf : d.file = P.main.file) (e : q.ss[i]? = some d := by rfl) : ∃ fd, FunS P K d.name d.qual d.params d.body d.scope [] (d.ad.at_ K) fd (He.ga K d.cl) (celA K (d.ad.at_ K)) := by
  have z := congrArg (fun l : List FnKS => l[i]?) c.sk
  rw [List.getElem?_map, List.getElem?_map, e] at z
  exact DefS.funS hf (Option.some.inj z) (c.ss d (List.mem_of_getElem? e))
end
theorem walk_ofX {l : PySem.W.OpenLaw} {n k : Nat} {q : Program} {loose : List Str} {XP : (Str → Option Value) → Heap → Prop} {Q : Hd} {nk : Nat} {d : DefRec} {x : Str}
    (hn : l.most = some n) (hn2 : n ≤ sizeLine) (hdf : d.params.defaults = []) (hr : Room k callerA)
    (F : ∀ (w : World) (mg : Str → Option Value) (fa : Addr) (h : Heap) (K : PySem.W.Frag), Q.Says h K → h.Ns mainGlobals mg → mg d.name = some (.ref fa) →
      ∃ (fd : FuncData) (sp : Sp), (∀ (s : Shared) (u : Value), BindsTo s fd ⟨[u], []⟩ [(x, u)]) ∧
        (∀ (H : Hp) (a : Addr) (ns : List Int), ns.length ≤ n → (∀ y ∈ Q.ms, H (tabA K (He.ga K y)) = some (.tbl #[])) → SqL K H a (ns.map V.int) → sp [.ref a] H (fun v _ => v = .bl true) fun _ _ _ => False) ∧
        ∀ base : Heap, K.In base → base.Ns mainGlobals mg → (∀ y ∈ Q.ms, TabB base mg (codeA K (He.ga K y)) (tabA K (He.ga K y))) → FnOk l.prog w K mg base (L2.CX l.prog w) k fa fd [x] sp) :
    PySem.W.WalkO q loose XP (Q.hook nk).says l.row.toRowW d [] (fun f vs => PySem.call f vs) := by
  refine Att.attach_call hn hdf fun w s0 s1 mg mb fa o pm cd doc a vs ns G Y ho hd hcd hmg hobj hints hlen hg => ?_
  obtain ⟨K, c⟩ := Y
  obtain ⟨fd, sp, hb, hsp, hF⟩ := F w mg fa _ K c G.T.g hmg
  have mem : ∀ p ∈ Q.ms.map (fun y => (codeA K (He.ga K y), tabA K (He.ga K y))), ∃ y ∈ Q.ms, p = (codeA K (He.ga K y), tabA K (He.ga K y)) := fun p hp => by
    obtain ⟨y, hy, e⟩ := List.mem_map.mp hp
    exact ⟨y, hy, e.symm⟩
  refine LamX.law_callTs (cs := Q.ms.map fun y => (codeA K (He.ga K y), tabA K (He.ga K y))) c.kin G.T.g G.T.b G.T.builtins G.T.nolimit hg (fun p hp => ?_) (fun p hp => ?_) (fun p hp => ?_) G.T.bmain hobj hints (Nat.le_trans hlen hn2) hr
    (fun base b1 b2 b3 => hF base b1 b2 fun y hy => b3 (codeA K (He.ga K y), tabA K (He.ga K y)) (List.mem_map.mpr ⟨y, hy, rfl⟩)) hb (fun H hH hS => hsp H a ns hlen (fun y hy => hH (codeA K (He.ga K y), tabA K (He.ga K y)) (List.mem_map.mpr ⟨y, hy, rfl⟩)) hS) fun H e s' z => nofly z
  · obtain ⟨y, hy, rfl⟩ := mem p hp
    exact (c.ms y hy).2
  · obtain ⟨y, hy, rfl⟩ := mem p hp
    exact (codeB_ok (c.ms y hy).1).2.1
  · obtain ⟨y, hy, rfl⟩ := mem p hp
    exact (codeB_ok (c.ms y hy).1).2.2 _ c.kin
end DL
namespace DL
open PySem PySem.Spec PyProof.Rows L2
open LamX (TabB)
variable [LamTab]
structure MkOk (K : PySem.W.Frag) (mg : Str → Option Value) (base : Heap) (q : Str) (f : Addr) : Prop where
  code : funCode K f = .ref (codeA K f)
  tb : TabB base mg (codeA K f) (tabA K f)
  mem : (tabA K f, q) ∈ LamTab.tbls K
  un : ∀ p ∈ LamTab.tbls K, p.1 = tabA K f → p.2 = q
theorem supCx_of {P : Program} {w : World} {K : PySem.W.Frag} {mg : Str → Option Value} {base : Heap} {N : List Str} {x qual first : Str} {params : Arguments} {body : List Stmt} {scope : Scope} {dvs : List V} {f cc Dc : Addr} {fd : FuncData} {cdv : Value} {A : Around} {outer : List Env} {s : Shared} {H : Hp} {E : XK}
    (F : FunS P K x qual params body scope dvs f fd Dc cc) (hc : ∃ cda : Addr, cdv = .ref cda ∧ ∃ ccl cdd vs ccs file tf, K.lookup cda = some ⟨ccl, cdd, .fields vs, ccs⟩ ∧ vs[2]? = some (.str file tf) ∧ ((P.main.file : Str) == file) = true)
    (top : (P.main.scope.names.lookup ("super" : Str)).isSome = false) (hm : mg "super" = none) (st : PySem.W.nsIn K cStatics "thirdparty.any" = some none)
    (h1 : scope.names.lookup ("super" : Str) = some .globalImplicit) (h2 : scope.names.lookup ("__class__" : Str) = some .free) (h3 : scope.names.lookup first = some .local) (h4 : N[0]? = some first) (h5 : ∃ ar : Arg, (params.posonlyargs ++ params.args).head? = some ar ∧ ar.arg = first) :
    SupCx (cxS (L2.CX P w) P w K mg base N qual scope f cdv cc A outer s H E) f Dc cc first := by
  obtain ⟨oc, od, dV, kV, doc, pm, an, cda, ct, osl, rfl, lk, _⟩ := F.ex
  obtain ⟨ar, a1, a2⟩ := h5
  obtain ⟨c1, e1, c2⟩ := hc
  subst e1
  obtain ⟨ccl, cdd, vs, ccs, file, tf, e2, e3, e4⟩ := c2
  exact ⟨rfl, h1, h2, rfl, F.cell, F.cls, ⟨oc, od, _, osl, ar, lk, a1, a2⟩, ⟨c1, ccl, cdd, vs, ccs, file, tf, rfl, e2, e3, e4⟩, top, hm, h4, h3, st⟩
theorem lbind0 {t : LamT} (h1 : t.ps = []) (h2 : t.dds = [])
    (h : ∀ (q : Str) (body : Expr) (scope : Scope) (g : List (Str × Addr)) (pm cv ctv : Value), bindArgs { name := "<lambda>", qualname := q, params := t.params, body := .expr body, scope, globals := mainGlobals, closure := g, defaults := .none, kwdefaults := .none, doc := .none, pyModule := pm, annotations := none, code := cv, closureTuple := ctv, builtins := builtinsNs } ⟨[], []⟩ = pure [])
    (h' : ∀ (q : Str) (body : Expr) (scope : Scope) (g : List (Str × Addr)) (pm cv ctv : Value) (T : Addr), ∃ k : Option (Array Value) → Sem (List (Str × Value)), bindArgs { name := "<lambda>", qualname := q, params := t.params, body := .expr body, scope, globals := mainGlobals, closure := g, defaults := .ref T, kwdefaults := .none, doc := .none, pyModule := pm, annotations := none, code := cv, closureTuple := ctv, builtins := builtinsNs } ⟨[], []⟩ = seqItems? (.ref T) >>= k ∧ k (some #[]) = pure []) : LBind t := by
  intro q body scope g pm cv ctv us
  refine ⟨fun _ hl => ?_, fun T ud h3 h4 => ?_⟩
  · rw [h1] at hl
    obtain rfl : us = [] := List.eq_nil_of_length_eq_zero hl
    rw [h1]
    exact h q body scope g pm cv ctv
  · rw [h2] at h3
    obtain rfl : ud = [] := List.eq_nil_of_length_eq_zero h3
    rw [h1] at h4
    obtain rfl : us = [] := List.eq_nil_of_length_eq_zero h4
    rw [h1]
    exact h' q body scope g pm cv ctv T
end DL
namespace DL
open PySem PySem.Spec PyProof.Rows L2
variable [LamTab]
section
variable {X : Cx} {k : Nat} {x mn : Str} {pos apos p2 : Pos}
end
end DL

namespace DL
open PySem PySem.Spec PyProof.Rows L2
variable [LamTab]
section
variable {X : Cx} {st st1 st2 st3 st4 : Stmt} {rest : List Stmt} {u u1 u2 u3 u4 w : DS}
end
end DL

set_option maxHeartbeats 4000000
namespace L2
open PySem PySem.Spec PyProof.Rows
section
variable {P : Program} {w : World} {A : Around} {E : Value → Shared → Prop} {s : Shared}
set_option maxRecDepth 100000 in
set_option maxHeartbeats 3200000 in
end
end L2
namespace DL
open PySem PySem.Spec PyProof.Rows L2
variable [LamTab]
noncomputable def dSortSet (t : DE) : DE := fun e m => (t e m).bind fun d m1 => match (seqL m1 d).bind toIs with
  | some ns => if ns.length < 64 then .ok (.lst ((setI ns).map .int)) m1 else .stuck
  | _ => .stuck
@[simp ↓] theorem dSortSet_ap (t : DE) (e : En) (m : Mu) : dSortSet t e m = (t e m).bind fun d m1 => match (seqL m1 d).bind toIs with
  | some ns => if ns.length < 64 then .ok (.lst ((setI ns).map .int)) m1 else .stuck
  | _ => .stuck := rfl
section
variable {X : Cx}
end
end DL

set_option maxHeartbeats 4000000
namespace DL
open PySem PySem.Spec PyProof.Rows L2
variable [LamTab]
def fCount : D → List D → Mu → Res D := fun d ds m => match ds with
  | [.int k] => match (seqL m d).bind toIs with
    | some ns => .ok (.int (ns.count k : Nat)) m
    | none => .stuck
  | _ => .stuck
@[simp] theorem fCount_ap (d : D) (k : Int) (m : Mu) : fCount d [.int k] m = match (seqL m d).bind toIs with
    | some ns => .ok (.int (ns.count k : Nat)) m
    | none => .stuck := rfl
variable {X : Cx} {o e : Expr} {to : DE} {t : DA} {apos cpos : Pos}
end DL

set_option maxHeartbeats 4000000
namespace DL
open PySem PySem.Spec PyProof.Rows L2
open PySem.W (KPc.meets_of KPc.ite_no KPc.ite_yes KXf.cut_str KXf.ret_text KXf.ret_same)
def fieldS (right : Bool) (w : Nat) (x : Str) : Str := if w ≤ x.length then x else Builtin.Str.padded x (if right then w - x.length else 0) (if right then 0 else w - x.length) 32
def repS (n : Int) (x : Str) : Str := ⟨(List.replicate n.toNat x.cps).foldl (· ++ ·) #[]⟩
section
variable {P : Program} {w : World} {A : Around} {E : Value → Shared → Prop} {s : Shared}
set_option maxRecDepth 100000 in
end
variable [LamTab]
section
variable {X : Cx} {e sp : Expr} {t ts : DE} {pos : Pos}
def fldW (right : Bool) (wd : Nat) (spec : Str) (d d2 : D) (m : Mu) : Res D := match d, d2 with
  | .str x, .str y => if y = spec ∧ x.length + wd ≤ sizeLine then .ok (.str (fieldS right wd x)) m else .stuck
  | _, _ => .stuck
def dFmtW (right : Bool) (wd : Nat) (spec : Str) (t ts : DE) : DE := fun e m => (t e m).bind fun d m1 => (ts e m1).bind fun d2 m2 => fldW right wd spec d d2 m2
@[simp ↓] theorem dFmtW_ap (right : Bool) (wd : Nat) (spec : Str) (t ts : DE) (e : En) (m : Mu) : dFmtW right wd spec t ts e m = (t e m).bind fun d m1 => (ts e m1).bind fun d2 m2 => fldW right wd spec d d2 m2 := rfl
@[simp] theorem fldW_ap (right : Bool) (wd : Nat) (spec x y : Str) (m : Mu) : fldW right wd spec (.str x) (.str y) m = if y = spec ∧ x.length + wd ≤ sizeLine then .ok (.str (fieldS right wd x)) m else .stuck := rfl
def gRepS : D2 := fun x y m => match x with
  | .str a => match y with
    | .int n => if n < 1000 ∧ -1000 < n ∧ a.length < 1000 then .ok (.str (repS n a)) m else .stuck
    | _ => .stuck
  | _ => .stuck
@[simp] theorem gRepS_ap (a : Str) (n : Int) (m : Mu) : gRepS (.str a) (.int n) m = if n < 1000 ∧ -1000 < n ∧ a.length < 1000 then .ok (.str (repS n a)) m else .stuck := rfl
theorem repS_size (n : Nat) (a : Array Nat) : ∀ b : Array Nat, ((List.replicate n a).foldl (· ++ ·) b).size = b.size + n * a.size := by
  induction n with
  | zero => intro b; simp
  | succ n ih =>
    intro b
    rw [List.replicate_succ, List.foldl_cons, ih, Array.size_append, Nat.add_mul, Nat.one_mul]
    omega
theorem repS_empty {a : Array Nat} (h : a.size = 0) (n : Nat) : ∀ b : Array Nat, (List.replicate n a).foldl (· ++ ·) b = b := by
  have e : a = #[] := Array.eq_empty_of_size_eq_zero h
  subst e
  induction n with
  | zero => intro b; rfl
  | succ n ih =>
    intro b
    rw [List.replicate_succ, List.foldl_cons, Array.append_empty, ih]
theorem od_repS : OD X (binaryOp .Mult) gRepS := by
  intro pins s σ S m x y vx vy u w Q sa rx ry I hu hw p
  unfold gRepS at p
  split at p
  · rename_i a
    split at p
    · rename_i n
      split at p
      · rename_i hc
        cases rx
        cases ry
        obtain ⟨t1, rfl⟩ := hu
        obtain ⟨t2, rfl⟩ := hw
        have q3 := Post.ok p (Stp.refl S) sa (.str _)
        obtain ⟨c1, c2, c3⟩ := hc
        have ac : a.cps.size = a.length := rfl
        have sz : ∀ b : Array Nat, b.size = 0 → ((List.replicate n.toNat a.cps).foldl (· ++ ·) b).size ≤ 1000000 := fun b hb => by
          rw [repS_size, hb, ac, Nat.zero_add]
          have := Nat.mul_le_mul (show n.toNat ≤ 1000 by omega) (show a.length ≤ 1000 by omega)
          omega
        refine P.mul_str (by
            rw [decide_eq_false (by omega), decide_eq_false (by omega)]; rfl) (fun h1 h2 => ?_) (fun h1 h2 => ?_) ?_
        · have : (1000 : Int) ≤ (2 ^ 63 - 1) / n := by
            rw [Int.le_ediv_iff_mul_le (by omega)]
            omega
          omega
        · unfold Builtin.Str.tooLong
          have := Nat.mul_le_mul (show n.toNat ≤ 1000 by omega) (show a.length ≤ 1000 by omega)
          rw [Nat.mul_comm] at this
          exact decide_eq_false (by
            have hz : sizeLine = 16777216 := rfl
            omega)
        · by_cases h1 : n < 1
          · rw [if_pos h1]
            have e : repS n a = Str.empty := by
              unfold repS
              rw [show n.toNat = 0 by omega]; rfl
            rw [e] at q3
            exact ⟨by decide, ⟨.str _, _, I.tok _, ⟨_, rfl⟩, q3⟩⟩
          · rw [if_neg h1]
            by_cases h2 : (n == 1 || a.length == 0) = true
            · rw [if_pos h2]
              have e : repS n a = a := by
                unfold repS
                rcases Bool.or_eq_true .. ▸ h2 with h3 | h3
                · rw [show n.toNat = 1 by have := eq_of_beq h3; omega]
                  show Str.mk (#[] ++ a.cps) = a
                  rw [Array.empty_append]
                · have h4 : a.cps.size = 0 := eq_of_beq h3
                  rw [repS_empty h4]
                  have : a.cps = #[] := Array.eq_empty_of_size_eq_zero h4
                  show Str.mk #[] = a
                  rw [← this]
              rw [e] at q3
              exact ⟨.str _, _, I, ⟨_, rfl⟩, q3⟩
            · rw [if_neg h2]
              exact ⟨by
                have := sz #[] rfl
                have hz : sizeLine = 16777216 := rfl
                show ((List.replicate n.toNat a.cps).foldl (· ++ ·) #[]).size ≤ sizeLine
                omega, ⟨.str _, _, I.tok _, ⟨_, rfl⟩, q3⟩⟩
      · exact (show False from p).elim
    · exact (show False from p).elim
  · exact (show False from p).elim
end
end DL

set_option maxHeartbeats 4000000
namespace DL
open PySem PySem.Spec PyProof.Rows L2
variable [LamTab]
section
variable {X : Cx} {o e : Expr} {to te : DE} {apos pos : Pos}
def gPartn (x y : D) (m : Mu) : Res D := match x, y with
  | .str a, .str b => if (b.length == 0) = false ∧ a.length ≤ sizeLine then .ok (.tup [.str (Txt.partition a b).1, .str (Txt.partition a b).2.1, .str (Txt.partition a b).2.2]) m else .stuck
  | _, _ => .stuck
def dPartn (to te : DE) : DE := fun e m => (to e m).bind fun x m1 => match x with
  | .str a => (te e m1).bind fun y m2 => gPartn (.str a) y m2
  | _ => .stuck
@[simp ↓] theorem dPartn_ap (to te : DE) (e : En) (m : Mu) : dPartn to te e m = (to e m).bind fun x m1 => match x with
  | .str a => (te e m1).bind fun y m2 => gPartn (.str a) y m2
  | _ => .stuck := rfl
@[simp] theorem gPartn_ap (a b : Str) (m : Mu) : gPartn (.str a) (.str b) m = if (b.length == 0) = false ∧ a.length ≤ sizeLine then .ok (.tup [.str (Txt.partition a b).1, .str (Txt.partition a b).2.1, .str (Txt.partition a b).2.2]) m else .stuck := rfl
theorem pd_partition (ho : PDE X o to) (he : PDE X e te) (hs : starEach [e] X.env = [(false, eval e X.env)] := by rfl) (hbase : attributeBase o "partition" X.env (eval o X.env) = eval o X.env := by rfl) (hline : (apos.endLine == pos.line) = true := by rfl) :
    PDE X (.Call (.Attribute o "partition" apos) [e] [] pos) (dPartn to te) := by
  refine pd_of (pe_partition (mxE X o) (mxE X e) hs hbase hline) fun S r m σ Q sa re p => ?_
  refine ho S r m σ _ sa re (Post.bindI p fun od m1 v T st sa1 rd q => ?_)
  split at q
  · rename_i a
    cases rd
    refine ⟨⟨a, rfl⟩, he T r m1 σ _ sa1 (re.stp st) (Post.bindI q fun d m2 w U st2 sa2 rw q2 => ?_)⟩
    unfold gPartn at q2
    split at q2
    · rename_i a' b e1
      cases e1
      cases rw
      split at q2
      · rename_i hc
        refine ⟨_, b, rfl, rfl, hc.1, hc.2, fun p hp => ?_⟩
        have st3 := Stp.new sa2 (o := .tup [.str (Txt.partition a b).1, .str (Txt.partition a b).2.1, .str (Txt.partition a b).2.2]) hp
        exact q2 (.ref p) (U.new p (.tup [.str (Txt.partition a b).1, .str (Txt.partition a b).2.1, .str (Txt.partition a b).2.2])) st3 (sa2.new hp) (.tup (.inl (.inl upd_same)) (.cons (.str _) (.cons (.str _) (.cons (.str _) .nil))))
      · exact (show False from q2).elim
    · exact (show False from q2).elim
  · exact (show False from q).elim
def gSplit (x y : D) (m : Mu) : Res D := match x, y with
  | .str a, .str b => if (b.length == 0) = false ∧ a.length + 2 ≤ sizeLine then .ok (.lst ((Txt.split a b).map D.str)) m else .stuck
  | _, _ => .stuck
def dSplit (to te : DE) : DE := fun e m => (to e m).bind fun x m1 => match x with
  | .str a => (te e m1).bind fun y m2 => gSplit (.str a) y m2
  | _ => .stuck
@[simp ↓] theorem dSplit_ap (to te : DE) (e : En) (m : Mu) : dSplit to te e m = (to e m).bind fun x m1 => match x with
  | .str a => (te e m1).bind fun y m2 => gSplit (.str a) y m2
  | _ => .stuck := rfl
@[simp] theorem gSplit_ap (a b : Str) (m : Mu) : gSplit (.str a) (.str b) m = if (b.length == 0) = false ∧ a.length + 2 ≤ sizeLine then .ok (.lst ((Txt.split a b).map D.str)) m else .stuck := rfl
def gIntS : DFn := fun ds m => match ds with
  | [.str a] => match PySem.intText? a with
    | some n => if a.length ≤ 640 then .ok (.int n) m else .stuck
    | none => .stuck
  | _ => .stuck
@[simp] theorem gIntS_ap (a : Str) (m : Mu) : gIntS [.str a] m = match PySem.intText? a with
    | some n => if a.length ≤ 640 then .ok (.int n) m else .stuck
    | none => .stuck := rfl
theorem oc_intS : OC X (.type "int") gIntS := by
  refine oc_of call_int_str fun S m ds xs Q W sa rs p => ?_
  unfold gIntS at p
  split at p
  · rename_i a
    obtain ⟨v, rfl, r⟩ := reps1 rs
    cases r
    split at p
    · rename_i n hn
      split at p
      · rename_i hl
        exact ⟨a, n, rfl, hn, hl, Post.ok p (Stp.refl S) sa (.int _)⟩
      · exact (show False from p).elim
    · exact (show False from p).elim
  · exact p.elim
end
section
variable (P : Program) (w : World) (K : PySem.W.Frag) (mg : Str → Option Value) (base : Heap)
structure CMtK (k : Nat) (x mn : Str) (ks : List Str) (G : DFn) : Prop where
  ex : ∃ (C pp g : Addr) (fd : FuncData) (ps : List Str) (plk : List Nat) (dds : List D) (G0 : DFn), mg x = some (.ref C) ∧ ClX.CRead K C (.type "type") ∧ ClX.CMet K C (.type "type") mn pp g ∧ FnD P w K mg base k g fd ps G0 ∧ BK K fd ps 1 ks plk dds ∧
    G = fun zs m => match pick plk (([.val (.ref C)] ++ zs) ++ dds) with
      | some xs => G0 xs m
      | none => .stuck
end
section
variable {X : Cx} {k : Nat} {x mn : Str} {p2 apos cpos : Pos} {ks : List Str} {G : DFn} {kws : List Keyword} {tk : DA}
theorem run_cmK {pins : List (Addr × Obj)} {σ : L2.St} {S : Wd} {m : Mu} {s : Shared} {Q : VK} {ws : List Value} {zs : List V} {dzs xs : List D} {C q g : Addr} {fd : FuncData} {ps : List Str} {plk : List Nat} {dds : List D} {G0 : DFn}
    (hf : FnD X.prog X.w X.K X.mg X.base k g fd ps G0) (hr : Room k X.A) (hb : BK X.K fd ps 1 ks plk dds)
    (I : Inv X ((q, PySem.W.methodObj (.ref g) (.ref C)) :: pins) σ S.H s) (sa : Sta X.K S m) (rz : Reps X.K S.i S.F dzs zs) (rw : Vals zs ws) (hk : dzs.length = ks.length)
    (hp : pick plk (([.val (.ref C)] ++ dzs) ++ dds) = some xs) (h : PostD X.K S (G0 xs m) Q (fun c d H => Fly X c d σ H)) :
    wpAny (model X.prog X.w) X.A (call (.ref q) [] (ks.zip ws)) (EP X pins σ Q) X.xe s := by
  obtain ⟨dsv, dvs, hd, hD, hB⟩ := hb.ex
  have l2 : ws.length = ks.length := by rw [← rw.length, ← rz.len]; exact hk
  obtain ⟨b1, b2⟩ := hB s [.ref C] ws I.kIn rfl l2
  have r0 : Reps X.K S.i S.F [.val (.ref C)] [V.ref C] := .cons (.val _) .nil
  have v0 : Vals [V.ref C] [Value.ref C] := .cons rfl .nil
  have r1 := pick_reps ((r0.append rz).append (hD S.i S.F)) hp
  have r2 := vals_pick ((v0.append rw).append hd) plk
  have hlv : (plk.filterMap fun i => ([V.ref C] ++ zs ++ dvs)[i]?).length = ps.length := by rw [r2.length]; exact b2
  have z : wpAny (model X.prog X.w) X.A (call (.ref q) [] (ks.zip ws)) (EP X ((q, PySem.W.methodObj (.ref g) (.ref C)) :: pins) σ Q) X.xe s := by
    refine wpAny_call (PySem.W.method_call (ClX.pin_at I) (codeAny_mono (hf.run X.A X.stack s S.H ⟨[.ref C], ks.zip ws⟩ _ _ Q (fun c d H => Fly X c d σ H) hr I.env0 b1 r2 ⟨hlv, S, m, xs, rfl, sa, r1, h⟩) fun r s' hq => ?_))
    cases r with
    | error e =>
      obtain ⟨a, B, sI, pins', σ', H', cls, d, e1, I', nb, up, sky, na, os, ag, e2, fl⟩ := XE.of_call I (W := fun c d σ' H => σ' = σ ∧ Fly X c d σ H) (fun cls d H' h => ⟨rfl, h⟩) hq
      exact fl e s' ⟨a, B, sI, pins', σ', H', cls, d, e1, I', nb, up, sky, na, os, ag, rfl, rfl, e2, rfl⟩
    | ok fl =>
      cases fl with
      | ret u => exact I.after hq
      | next => exact False.elim hq
      | brk => exact False.elim hq
      | cont => exact False.elim hq
  exact thn z fun _ _ y => ClX.unpinE y
noncomputable def dFunC (n : Nat) (G : DFn) (tk : DA) : DE := fun e m => (tk e m).bind fun zs m1 => if zs.length = n then G zs m1 else .stuck
@[simp ↓] theorem dFunC_ap (n : Nat) (G : DFn) (tk : DA) (e : En) (m : Mu) : dFunC n G tk e m = (tk e m).bind fun zs m1 => if zs.length = n then G zs m1 else .stuck := rfl
theorem pd_cmethK0 {pl : Sem Bool} (F : CMtK X.prog X.w X.K X.mg X.base k x mn ks G) (hr : Room k X.A) (hkw : PDK X kws tk)
    (hks : (backToKw cpos (keywordEach kws X.env)).filterMap (·.1) = ks := by rfl) (hall : (backToKw cpos (keywordEach kws X.env)).all (·.1.isSome) = true := by rfl)
    (hpl : ((backTo cpos (starEach [] X.env)).any (·.1) || (backToKw cpos (keywordEach kws X.env)).any (·.1.isNone)) = false := by rfl)
    (hg : Gl X x := by rfl) (hdb : (x == ("__debug__" : Str)) = false := by decide)
    (ht : eval (.Call (.Attribute (.Name x p2) mn apos) [] kws cpos) X.env = (do
      let ov ← eval (.Name x p2) X.env
      standAt apos.atName
      let (f, first) ← holding [ov] (getMethod ov mn pl)
      callWith cpos f first (backTo cpos (starEach [] X.env)) (backToKw cpos (keywordEach kws X.env))) := by rfl) :
    PDE X (.Call (.Attribute (.Name x p2) mn apos) [] kws cpos) (dFunC ks.length G tk) := by
  obtain ⟨C, pp, g, fd, ps, plk, dds, G0, hm, r1, c1, hf, hb, rfl⟩ := F.ex
  intro S r m σ Q sa re q pins s I
  refine PySem.W.methodCall_KW (pl := pl) (ld_glob I hg hm ?_ hdb) ht
  refine ClX.getmethcm_ok I r1 c1 fun s2 I2 => ?_
  refine PySem.W.callWith_of (P := PySem.W.MethP X.K s.heap.objs.size g (.ref C)) hpl (PySem.W.keeps_M c1.fi) (evalArgs_kw2_nil hall ?_)
  refine thn (hkw.run sa re q I2 cpos) ?_
  rintro ws s3 ⟨zs, dzs, m3, Z, st3, sa3, rdz, rz, I3, q3⟩
  refine ⟨⟨ClX.pin_at I3, I3.kIn⟩, ?_⟩
  rw [hks]
  split at q3
  · rename_i hl
    dsimp only at q3
    split at q3
    · rename_i xs' hp
      exact run_cmK hf hr hb I3 sa3 rdz rz hl hp q3
    · exact q3.elim
  · exact q3.elim
end
end DL

namespace W
open PySem PySem.Spec L2 DL
def lx_0 : Expr := exAt ((subS (stAt ((defBody (topS 27)).getD 1 (.Pass ⟨0, 0, 0, 0⟩)) [5])).getD 0 (.Constant .none 0 ⟨0, 0, 0, 0⟩)) [1]
def lx_1 : Expr := exAt ((subS (stAt ((defBody (topS 27)).getD 1 (.Pass ⟨0, 0, 0, 0⟩)) [9])).getD 0 (.Constant .none 0 ⟨0, 0, 0, 0⟩)) [0, 1, 1]
def lamTab : Nat → LamT
  | 0 => ⟨(("law" : Str) ++ (".<locals>." : Str) ++ ("<lambda>" : Str)), lamP lx_0, lamB lx_0, lamS lx_0, [], [], ["_law_word_here"]⟩
  | 1 => ⟨(("law" : Str) ++ (".<locals>." : Str) ++ ("<lambda>" : Str)), lamP lx_1, lamB lx_1, lamS lx_1, [], [], ["_law_bad"]⟩
  | _ => ⟨Str.empty, ⟨[], [], none, [], [], none, []⟩, .Constant .none 0 ⟨0, 0, 0, 0⟩, default, [], [], []⟩
instance : LamTab := ⟨lamTab, fun K => [(tabA K (He.ga K "law"), (("law" : Str) ++ (".<locals>." : Str) ++ ("<lambda>" : Str)))]⟩
def lr_law : List (Nat × List Nat) := [(0, [4]), (1, [12])]
structure Cs where
  cCycleError : Addr
  cInvalidRatio : Addr
  cMissing : Addr
  cNothingLeft : Addr
  cRatio : Addr
def Cs.Ok (c : Cs) : Prop := c.cCycleError ≠ c.cInvalidRatio ∧ c.cCycleError ≠ c.cMissing ∧ c.cInvalidRatio ≠ c.cMissing ∧ c.cCycleError ≠ c.cNothingLeft ∧ c.cInvalidRatio ≠ c.cNothingLeft ∧ c.cMissing ≠ c.cNothingLeft ∧ c.cCycleError ≠ c.cRatio ∧ c.cInvalidRatio ≠ c.cRatio ∧ c.cMissing ≠ c.cRatio ∧ c.cNothingLeft ≠ c.cRatio ∧ True
def nsCycleError : List Str := ["code"]
abbrev Cs.kCycleError (c : Cs) : Kl := ⟨c.cCycleError, nsCycleError⟩
def nsInvalidRatio : List Str := ["code", "given"]
abbrev Cs.kInvalidRatio (c : Cs) : Kl := ⟨c.cInvalidRatio, nsInvalidRatio⟩
def nsMissing : List Str := ["code"]
abbrev Cs.kMissing (c : Cs) : Kl := ⟨c.cMissing, nsMissing⟩
def nsNothingLeft : List Str := ["code"]
abbrev Cs.kNothingLeft (c : Cs) : Kl := ⟨c.cNothingLeft, nsNothingLeft⟩
def nsRatio : List Str := ["own_top", "own_bottom"]
abbrev Cs.kRatio (c : Cs) : Kl := ⟨c.cRatio, nsRatio⟩
def ans_Ratio (c : Cs) : Ans := ⟨[], []⟩
def ans_Ratio__Ratio (c : Cs) : Ans := ⟨[], [(c.cRatio, true)]⟩
def ans_bool (c : Cs) : Ans := ⟨["bool"], []⟩
def ans_bool__Ratio (c : Cs) : Ans := ⟨["bool"], [(c.cRatio, false)]⟩
def ans_int (c : Cs) : Ans := ⟨["int", "bool"], []⟩
def ans_int__Ratio (c : Cs) : Ans := ⟨["int", "bool"], [(c.cRatio, false)]⟩
def ans_list (c : Cs) : Ans := ⟨["list"], []⟩
def ans_list__Ratio (c : Cs) : Ans := ⟨["list"], [(c.cRatio, false)]⟩
def ans_list_tuple (c : Cs) : Ans := ⟨["list", "tuple"], []⟩
def ans_str (c : Cs) : Ans := ⟨["str"], []⟩
def ans_str__Ratio (c : Cs) : Ans := ⟨["str"], [(c.cRatio, false)]⟩
def ans_tuple (c : Cs) : Ans := ⟨["tuple"], []⟩
def ans_tuple__Ratio (c : Cs) : Ans := ⟨["tuple"], [(c.cRatio, false)]⟩
noncomputable def F_w_begin (c : Cs) : DFn := dFn 1 (dRet (dLoc (dCons (dFun gList (dCons (dSl (dVar 0) dNoPart (dPart (dC (.int 63)))) dNil)) (dCons (dC (.int 0)) (dCons (dC (.int 0)) (dCons (dBin gAdd (dC (.int 100050)) (dBin gMul (dC (.int 17)) (dFun gLen (dCons (dSl (dVar 0) dNoPart (dPart (dC (.int 63)))) dNil)))) dNil))))))
noncomputable def F_w_take (c : Cs) : DFn := dFn 5 (dSeq (dIfS (dAndT (dTst (dBin gEq (dBin gIx (dVar 0) (dC (.int 2))) (dC (.int 0)))) (dTst (dBin gLt (dBin gIx (dVar 0) (dC (.int 1))) (dFun gLen (dCons (dBin gIx (dVar 0) (dC (.int 0))) dNil))))) (dSeq (dSet 2 (dFun gAbs (dCons (dBin gIx (dBin gIx (dVar 0) (dC (.int 0))) (dBin gIx (dVar 0) (dC (.int 1)))) dNil))) (dSeq (dPutI (dBin gAdd (dBin gIx (dVar 0) (dC (.int 1))) (dC (.int 1))) (dVar 0) (dC (.int 1))) (dIfS (dTst (dBin gGe (dVar 2) (dBin gPow (dC (.int 10)) (dC (.int 18))))) (dPutI (dVar 2) (dVar 0) (dC (.int 2))) (dPutI (dBin gMod (dFun gInt (dCons (dBin gAdd (dBin gAdd (dBin gMul (dBin gIx (dVar 0) (dC (.int 3))) (dC (.int 36919))) (dBin gMul (dBin gMod (dFun gInt (dCons (dVar 2) dNil)) (dC (.int 2147483563))) (dC (.int 7919)))) (dBin gIx (dVar 0) (dC (.int 1)))) dNil)) (dC (.int 2147483629))) (dVar 0) (dC (.int 3)))))) dSkip) (dSeq (dIfS (dTst (dBin gGt (dBin gIx (dVar 0) (dC (.int 2))) (dC (.int 0)))) (dSeq (dSet 3 (dBin gMod (dFun gInt (dCons (dBin gIx (dVar 0) (dC (.int 2))) dNil)) (dVar 1))) (dSeq (dPutI (dBin gDiv (dBin gIx (dVar 0) (dC (.int 2))) (dVar 1)) (dVar 0) (dC (.int 2))) (dRet (dVar 3)))) dSkip) (dSeq (dSet 4 (dBin gIx (dVar 0) (dC (.int 3)))) (dSeq (dPutI (dBin gMod (dFun gInt (dCons (dBin gAdd (dBin gAdd (dBin gMul (dVar 4) (dVar 4)) (dBin gMul (dVar 4) (dC (.int 29423)))) (dC (.int 90001))) dNil)) (dC (.int 2147483647))) (dVar 0) (dC (.int 3))) (dRet (dBin gMod (dFun gInt (dCons (dBin gAdd (dBin gDiv (dBin gIx (dVar 0) (dC (.int 3))) (dC (.int 53))) (dBin gMul (dBin gMod (dFun gInt (dCons (dBin gIx (dVar 0) (dC (.int 3))) dNil)) (dC (.int 7907))) (dC (.int 179)))) dNil)) (dVar 1)))))))
noncomputable def F_w_one (c : Cs) : DFn := dFn 2 (dRet (dBin gIx (dVar 1) (dFun (padF 2 [] (F_w_take c)) (dCons (dVar 0) (dCons (dFun gLen (dCons (dVar 1) dNil)) dNil)))))
noncomputable def T_w_divisor_1 (c : Cs) : DT := (dTst (dBin gGt (dVar 1) (dC (.int 0))))
theorem T_w_divisor_1_ap (c : Cs) (e : En) (m : Mu) : T_w_divisor_1 c e m = (dTst (dBin gGt (dVar 1) (dC (.int 0)))) e m := rfl
noncomputable def B_w_divisor_1 (c : Cs) : DS := (dPar 0 1 (dCons (dVar 1) (dCons (dBin gMod (dFun gInt (dCons (dVar 0) dNil)) (dVar 1)) dNil)))
theorem B_w_divisor_1_ap (c : Cs) (e : En) (m : Mu) : B_w_divisor_1 c e m = (dPar 0 1 (dCons (dVar 1) (dCons (dBin gMod (dFun gInt (dCons (dVar 0) dNil)) (dVar 1)) dNil))) e m := rfl
noncomputable def F_w_divisor (c : Cs) : DFn := dFn 2 (dSeq (dWhile (T_w_divisor_1 c) (B_w_divisor_1 c)) (dRet (dVar 0)))
noncomputable def F_w_frac (c : Cs) : DFn := dFn 3 (dSeq (dSet 2 (dFun (padF 2 [] (F_w_divisor c)) (dCons (dFun gAbs (dCons (dVar 0) dNil)) (dCons (dFun gAbs (dCons (dVar 1) dNil)) dNil)))) (dSeq (dSet 2 (dIf (dTst (dBin gGt (dVar 1) (dC (.int 0)))) (dVar 2) (dBin gSub (dC (.int 0)) (dVar 2)))) (dRet (dTup (dCons (dBin gDiv (dVar 0) (dVar 2)) (dCons (dBin gDiv (dVar 1) (dVar 2)) dNil))))))
noncomputable def F_w_any_frac (c : Cs) : DFn := dFn 3 (dSeq (dSet 1 (dBin gAdd (dC (.int 1)) (dFun (padF 2 [] (F_w_take c)) (dCons (dVar 0) (dCons (dFun (padF 2 [] (F_w_one c)) (dCons (dVar 0) (dCons (dLst (dCons (dC (.int 1)) (dCons (dC (.int 4)) (dCons (dC (.int 12)) (dCons (dC (.int 1000)) (dCons (dBin gPow (dC (.int 10)) (dC (.int 18))) dNil)))))) dNil))) dNil))))) (dSeq (dSet 2 (dFun (padF 2 [] (F_w_take c)) (dCons (dVar 0) (dCons (dFun (padF 2 [] (F_w_one c)) (dCons (dVar 0) (dCons (dLst (dCons (dC (.int 2)) (dCons (dC (.int 7)) (dCons (dBin gAdd (dBin gMul (dC (.int 3)) (dVar 1)) (dC (.int 1))) (dCons (dBin gPow (dC (.int 10)) (dC (.int 19))) dNil))))) dNil))) dNil)))) (dRet (dFun (padF 2 [] (F_w_frac c)) (dCons (dFun (padF 2 [] (F_w_one c)) (dCons (dVar 0) (dCons (dLst (dCons (dVar 2) (dCons (dVar 2) (dCons (dBin gSub (dC (.int 0)) (dVar 2)) dNil)))) dNil))) (dCons (dVar 1) dNil))))))
noncomputable def F_w_word (c : Cs) : DFn := dFn 4 (dSeq (dAsg (dFun (padF 2 [] (F_w_frac c)) (dCons (dVar 0) (dCons (dVar 1) dNil))) (dTupG 2 (dGcons (dName 2) (dGcons (dName 3) dGnil)))) (dRet (dIf (dTst (dBin gEq (dVar 3) (dC (.int 1)))) (dFun gStrI (dCons (dVar 2) dNil)) (dBin gAddS (dBin gAddS (dFun gStrI (dCons (dVar 2) dNil)) (dC (.str "/"))) (dFun gStrI (dCons (dVar 3) dNil))))))
noncomputable def F_CycleErrorD_initD (c : Cs) : DFn := dFn 2 (dSeq (dSupB [c.cInvalidRatio] (dCons (dVar 1) dNil)) (dPutX [c.cInvalidRatio] "code" (dVar 1) (dVar 0)))
noncomputable def F_InvalidRatioD_initD (c : Cs) : DFn := dFn 2 (dSeq (dSup [c.cInvalidRatio] (padF 2 [] (F_CycleErrorD_initD c)) (dCons (dC (.str "InvalidRatio")) dNil)) (dPutX [c.cInvalidRatio] "given" (dVar 1) (dVar 0)))
noncomputable def C_whole_in_1 (c : Cs) : DE := (dBin gIn (dVar 2) (dC (.str "0123456789")))
theorem C_whole_in_1_ap (c : Cs) (e : En) (m : Mu) : C_whole_in_1 c e m = (dBin gIn (dVar 2) (dC (.str "0123456789"))) e m := rfl
noncomputable def F_whole_in (c : Cs) : DFn := dFn 4 (dSeq (dSet 1 (dIf (dTst (dBin gEq (dSlStr (dVar 0) dNoPart (dPart (dC (.int 1)))) (dC (.str "-")))) (dSlStr (dVar 0) (dPart (dC (.int 1))) dNoPart) (dVar 0))) (dSeq (dIfS (dOrT (dTst (dBin gEq (dVar 1) (dC (.str "")))) (dNotT (dTst (dFun gAll (dCons (dComp (dItStr (dVar 1)) (dName 2) dYes (C_whole_in_1 c) [2]) dNil))))) (dRet (dC .non)) dSkip) (dSeq (dSet 3 (dFun gIntS (dCons (dVar 0) dNil))) (dRet (dIf (dTst (dBin gEq (dFun gStrI (dCons (dVar 3) dNil)) (dVar 0))) (dVar 3) (dC .non))))))
noncomputable def F_is_whole (c : Cs) : DFn := dFn 1 (dRet (dAnd (dIsi (ans_int c) (dVar 0)) (dNot (dIsi (ans_bool c) (dVar 0)))))
noncomputable def T_common_divisor_1 (c : Cs) : DT := (dTst (dBin gNe (dVar 1) (dC (.int 0))))
theorem T_common_divisor_1_ap (c : Cs) (e : En) (m : Mu) : T_common_divisor_1 c e m = (dTst (dBin gNe (dVar 1) (dC (.int 0)))) e m := rfl
noncomputable def B_common_divisor_1 (c : Cs) : DS := (dPar 0 1 (dCons (dVar 1) (dCons (dBin gMod (dVar 0) (dVar 1)) dNil)))
theorem B_common_divisor_1_ap (c : Cs) (e : En) (m : Mu) : B_common_divisor_1 c e m = (dPar 0 1 (dCons (dVar 1) (dCons (dBin gMod (dVar 0) (dVar 1)) dNil))) e m := rfl
noncomputable def F_common_divisor (c : Cs) : DFn := dFn 2 (dSeq (dWhile (T_common_divisor_1 c) (B_common_divisor_1 c)) (dRet (dVar 0)))
noncomputable def F_RatioD_initD (c : Cs) : DFn := dFn 4 (dSeq (dIfS (dOrT (dNotT (dTst (dFun (padF 1 [] (F_is_whole c)) (dCons (dVar 1) dNil)))) (dOrT (dNotT (dTst (dFun (padF 1 [] (F_is_whole c)) (dCons (dVar 2) dNil)))) (dTst (dBin gEq (dVar 2) (dC (.int 0)))))) (dRaise c.cInvalidRatio (padF 2 [] (F_InvalidRatioD_initD c)) (dCons (dTup (dCons (dVar 1) (dCons (dVar 2) dNil))) dNil)) dSkip) (dSeq (dSet 3 (dFun (padF 2 [] (F_common_divisor c)) (dCons (dFun gAbs (dCons (dVar 1) dNil)) (dCons (dFun gAbs (dCons (dVar 2) dNil)) dNil)))) (dSeq (dSet 3 (dIf (dTst (dBin gLt (dVar 2) (dC (.int 0)))) (dNegI (dVar 3)) (dVar 3))) (dSeq (dPutF [c.cRatio] "own_top" (dBin gDiv (dVar 1) (dVar 3)) (dVar 0)) (dPutF [c.cRatio] "own_bottom" (dBin gDiv (dVar 2) (dVar 3)) (dVar 0))))))
noncomputable def F_RatioD_strD (c : Cs) : DFn := dFn 1 (dSeq (dIfS (dTst (dBin gEq (dFld [(c.kRatio, 1)] (dVar 0)) (dC (.int 1)))) (dRet (dFmt [] (dFld [(c.kRatio, 0)] (dVar 0)))) dSkip) (dRet (dJs [(dFmt [] (dFld [(c.kRatio, 0)] (dVar 0))), (dC (.str "/")), (dFmt [] (dFld [(c.kRatio, 1)] (dVar 0)))] Str.empty)))
noncomputable def F_Ratio_read (c : Cs) : DFn := dFn 8 (dSeq (dIfS (dOrT (dNotT (dTst (dIsi (ans_str c) (dVar 1)))) (dTst (dBin gGt (dFun gLen (dCons (dVar 1) dNil)) (dC (.int 100))))) (dRaise c.cInvalidRatio (padF 2 [] (F_InvalidRatioD_initD c)) (dCons (dVar 1) dNil)) dSkip) (dSeq (dAsg (dPartn (dVar 1) (dC (.str "/"))) (dTupG 3 (dGcons (dName 2) (dGcons (dName 3) (dGcons (dName 4) dGnil))))) (dSeq (dPar 5 6 (dCons (dFun (padF 1 [] (F_whole_in c)) (dCons (dVar 2) dNil)) (dCons (dIf (dTst (dBin gEq (dVar 3) (dC (.str "/")))) (dFun (padF 1 [] (F_whole_in c)) (dCons (dVar 4) dNil)) (dC (.int 1))) dNil))) (dSeq (dIfS (dOrT (dTst (dBin gIsN (dVar 5) (dC .non))) (dOrT (dTst (dBin gIsN (dVar 6) (dC .non))) (dTst (dBin gEq (dVar 6) (dC (.int 0)))))) (dRaise c.cInvalidRatio (padF 2 [] (F_InvalidRatioD_initD c)) (dCons (dVar 1) dNil)) dSkip) (dSeq (dSet 7 (dMakeV 0 c.cRatio (padF 3 [] (F_RatioD_initD c)) (dCons (dVar 5) (dCons (dVar 6) dNil)))) (dSeq (dIfS (dTst (dBin gNe (dFun (dOwnStr [(c.kRatio, (padF 1 [] (F_RatioD_strD c)))]) (dCons (dVar 7) dNil)) (dVar 1))) (dRaise c.cInvalidRatio (padF 2 [] (F_InvalidRatioD_initD c)) (dCons (dVar 1) dNil)) dSkip) (dRet (dVar 7))))))))
noncomputable def GC_Ratio_Ratio_read_text (c : Cs) : DFn := fun zs m => match pick [0, 1] (([.val (.ref c.cRatio)] ++ zs) ++ []) with
  | some xs => F_Ratio_read c xs m
  | none => .stuck
noncomputable def F_Ratio_bottom (c : Cs) : DFn := dFn 1 (dRet (dFld [(c.kRatio, 1)] (dVar 0)))
noncomputable def F_Ratio_top (c : Cs) : DFn := dFn 1 (dRet (dFld [(c.kRatio, 0)] (dVar 0)))
noncomputable def F_w_parts (c : Cs) : DFn := dFn 1 (dRet (dIf (dTst (dIsi (ans_Ratio__Ratio c) (dVar 0))) (dTup (dCons (dProp [(c.kRatio, padF 1 [] (F_Ratio_top c))] (dVar 0)) (dCons (dProp [(c.kRatio, padF 1 [] (F_Ratio_bottom c))] (dVar 0)) dNil))) (dC .non)))
noncomputable def F_RatioD_eqD (c : Cs) : DFn := dFn 2 (dRet (dAnd (dIsi (ans_Ratio c) (dVar 1)) (dAnd (dBin gEq (dFld [(c.kRatio, 0)] (dVar 0)) (fun _ _ => .stuck)) (dBin gEq (dFld [(c.kRatio, 1)] (dVar 0)) (fun _ _ => .stuck)))))
noncomputable def F_w_like (c : Cs) : Nat → DFn
  | 0 => fun _ _ => .stuck
  | n + 1 => dFn 4 (dSeq (dIfS (dOrT (dTst (dBin gIsN (dVar 1) (dC .non))) (dTst (dBin gIsN (dVar 0) (dC .non)))) (dRet (dAnd (dBin gIsN (dVar 1) (dC .non)) (dBin gIsN (dVar 0) (dC .non)))) dSkip) (dSeq (dIfS (dTst (dIsi (ans_list_tuple c) (dVar 1))) (dSeq (dIfS (dOrT (dTst (dBin gNe (dIsi (ans_list__Ratio c) (dVar 0)) (dIsi (ans_list c) (dVar 1)))) (dTst (dBin gNe (dIsi (ans_tuple__Ratio c) (dVar 0)) (dIsi (ans_tuple c) (dVar 1))))) (dRet (dC (.bl false))) dSkip) (dRet (dAnd (dBin gEq (dFun gLen (dCons (dVar 0) dNil)) (dFun gLen (dCons (dVar 1) dNil))) (dFun gAll (dCons (dComp (dItZ (dCons (dVar 0) (dCons (dVar 1) dNil))) (dTupG 2 (dGcons (dName 2) (dGcons (dName 3) dGnil))) dYes (dFun (padF 2 [] (F_w_like c n)) (dCons (dVar 2) (dCons (dVar 3) dNil))) [2, 3]) dNil))))) dSkip) (dSeq (dIfS (dOrT (dTst (dBin gNe (dIsi (ans_bool__Ratio c) (dVar 0)) (dIsi (ans_bool c) (dVar 1)))) (dTst (dBin gNe (dIsi (ans_int__Ratio c) (dVar 0)) (dIsi (ans_int c) (dVar 1))))) (dRet (dC (.bl false))) dSkip) (dRet (dAnd (dBin gEq (dIsi (ans_str__Ratio c) (dVar 0)) (dIsi (ans_str c) (dVar 1))) (dBin (orD (orD (dOwnEq false [(c.kRatio, (padF 2 [] (F_RatioD_eqD c)), [(.prim "NoneType"), (.prim "bool"), (.prim "int"), (.prim "list"), (.prim "str"), (.prim "tuple")])]) gEq) (gEqX false [(c.kRatio, (padF 2 [] (F_RatioD_eqD c)), [(.prim "NoneType"), (.prim "bool"), (.prim "int"), (.prim "list"), (.prim "str"), (.prim "tuple")])] 5)) (dVar 0) (dVar 1)))))))
noncomputable def C_w_ratio_in_1 (c : Cs) : DE := (dBin gIn (dVar 6) (dC (.str "0123456789")))
theorem C_w_ratio_in_1_ap (c : Cs) (e : En) (m : Mu) : C_w_ratio_in_1 c e m = (dBin gIn (dVar 6) (dC (.str "0123456789"))) e m := rfl
noncomputable def B_w_ratio_in_1 (c : Cs) : DS := (dIfS (dOrT (dTst (dBin gEq (dVar 5) (dC (.str "")))) (dOrT (dNotT (dTst (dFun gAll (dCons (dComp (dItStr (dVar 5)) (dName 6) dYes (C_w_ratio_in_1 c) [6]) dNil)))) (dAndT (dTst (dBin gGt (dFun gLen (dCons (dVar 5) dNil)) (dC (.int 1)))) (dTst (dBin gEq (dBin gIx (dVar 5) (dC (.int 0))) (dC (.str "0"))))))) (dRet (dC .non)) dSkip)
theorem B_w_ratio_in_1_ap (c : Cs) (e : En) (m : Mu) : B_w_ratio_in_1 c e m = (dIfS (dOrT (dTst (dBin gEq (dVar 5) (dC (.str "")))) (dOrT (dNotT (dTst (dFun gAll (dCons (dComp (dItStr (dVar 5)) (dName 6) dYes (C_w_ratio_in_1 c) [6]) dNil)))) (dAndT (dTst (dBin gGt (dFun gLen (dCons (dVar 5) dNil)) (dC (.int 1)))) (dTst (dBin gEq (dBin gIx (dVar 5) (dC (.int 0))) (dC (.str "0"))))))) (dRet (dC .non)) dSkip) e m := rfl
noncomputable def F_w_ratio_in (c : Cs) : DFn := dFn 8 (dSeq (dAsg (dPartn (dVar 0) (dC (.str "/"))) (dTupG 3 (dGcons (dName 1) (dGcons (dName 2) (dGcons (dName 3) dGnil))))) (dSeq (dSet 4 (dIf (dTst (dBin gEq (dSlStr (dVar 1) dNoPart (dPart (dC (.int 1)))) (dC (.str "-")))) (dSlStr (dVar 1) (dPart (dC (.int 1))) dNoPart) (dVar 1))) (dSeq (dFor (dItL (dBin gCat (dLst (dCons (dVar 4) dNil)) (dIf (dTst (dBin gEq (dVar 2) (dC (.str "/")))) (dLst (dCons (dVar 3) dNil)) (dLst dNil)))) (dName 5) (B_w_ratio_in_1 c)) (dSeq (dIfS (dOrT (dTst (dBin gGt (dFun gLen (dCons (dVar 0) dNil)) (dC (.int 100)))) (dOrT (dTst (dBin gEq (dVar 1) (dC (.str "-0")))) (dAndT (dTst (dBin gEq (dVar 2) (dC (.str "/")))) (dTst (dBin gIn (dVar 3) (dLst (dCons (dC (.str "0")) (dCons (dC (.str "1")) dNil)))))))) (dRet (dC .non)) dSkip) (dSeq (dSet 7 (dTup (dCons (dFun gIntS (dCons (dVar 1) dNil)) (dCons (dIf (dTst (dBin gEq (dVar 2) (dC (.str "/")))) (dFun gIntS (dCons (dVar 3) dNil)) (dC (.int 1))) dNil)))) (dRet (dIf (dTst (dBin gEq (dFun (padF 2 [] (F_w_frac c)) (dCons (dBin gIx (dVar 7) (dC (.int 0))) (dCons (dBin gIx (dVar 7) (dC (.int 1))) dNil))) (dVar 7))) (dVar 7) (dC .non))))))))
noncomputable def L_0 (c : Cs) : DFn := fun ds m => (dFun (fun ds => (padF 2 [] (F_Ratio_read c)) (.val (.ref c.cRatio) :: ds)) (dCons (dVar 0) dNil)) (ds.map some) m
theorem L_0_ap (c : Cs) (ds : List D) (m : Mu) : L_0 c ds m = (dFun (fun ds => (padF 2 [] (F_Ratio_read c)) (.val (.ref c.cRatio) :: ds)) (dCons (dVar 0) dNil)) (ds.map some) m := rfl
noncomputable def L_1 (c : Cs) : DFn := fun ds m => (dFun (fun ds => (padF 2 [] (F_Ratio_read c)) (.val (.ref c.cRatio) :: ds)) (dCons (dVar 0) dNil)) (ds.map some) m
theorem L_1_ap (c : Cs) (ds : List D) (m : Mu) : L_1 c ds m = (dFun (fun ds => (padF 2 [] (F_Ratio_read c)) (.val (.ref c.cRatio) :: ds)) (dCons (dVar 0) dNil)) (ds.map some) m := rfl
noncomputable def LT0 (c : Cs) : List (Nat × DFn) := [(0, L_0 c), (1, L_1 c)]
noncomputable def F_w_field (c : Cs) : DFn := fun ds m => noExcR (dFn 1 (dSeq (dIfS (dTst (dBin gIn (dXf [c.cInvalidRatio] "code" (dVar 0)) (dLst (dCons (dC (.str "InvalidLine")) (dCons (dC (.str "InvalidFact")) dNil))))) (dRet (dTup (dCons (dXf [] "at" (dVar 0)) dNil))) dSkip) (dSeq (dIfS (dTst (dBin gIn (dXf [c.cInvalidRatio] "code" (dVar 0)) (dLst (dCons (dC (.str "DuplicateName")) (dCons (dC (.str "TooShort")) (dCons (dC (.str "UnknownName")) dNil)))))) (dRet (dTup (dCons (dXf [] "name" (dVar 0)) dNil))) dSkip) (dSeq (dIfS (dTst (dBin gIn (dXf [c.cInvalidRatio] "code" (dVar 0)) (dLst (dCons (dC (.str "InvalidCommand")) (dCons (dC (.str "InvalidText")) dNil))))) (dRet (dIf (dTst (dBin gEq (dXf [c.cInvalidRatio] "code" (dVar 0)) (dC (.str "InvalidCommand")))) (dTup (dCons (dXf [] "index" (dVar 0)) dNil)) (dTup (dCons (dXf [] "line" (dVar 0)) dNil)))) dSkip) (dSeq (dIfS (dTst (dBin gIn (dXf [c.cInvalidRatio] "code" (dVar 0)) (dLst (dCons (dC (.str "TooMany")) (dCons (dC (.str "Full")) dNil))))) (dRet (dIf (dTst (dBin gEq (dXf [c.cInvalidRatio] "code" (dVar 0)) (dC (.str "TooMany")))) (dTup (dCons (dXf [] "most" (dVar 0)) dNil)) (dTup (dCons (dXf [] "limit" (dVar 0)) dNil)))) dSkip) (dSeq (dIfS (dTst (dBin gIn (dXf [c.cInvalidRatio] "code" (dVar 0)) (dLst (dCons (dC (.str "Contradiction")) (dCons (dC (.str "Unbounded")) dNil))))) (dRet (dIf (dTst (dBin gEq (dXf [c.cInvalidRatio] "code" (dVar 0)) (dC (.str "Contradiction")))) (dTup (dCons (dXf [] "kind" (dVar 0)) dNil)) (dTup (dCons (dXf [] "kind" (dVar 0)) (dCons (dXf [] "name" (dVar 0)) dNil))))) dSkip) (dRet (dIf (dTst (dBin gEq (dXf [c.cInvalidRatio] "code" (dVar 0)) (dC (.str "NothingLeft")))) (dTup dNil) (dTup (dCons (dXf [c.cInvalidRatio] "given" (dVar 0)) dNil))))))))) ds m)
noncomputable def B_w_try_1 (c : Cs) : DS := (dRet (dTup (dCons (dC (.str "")) (dCons (dAsk (LT0 c) 0 dNil) dNil))))
theorem B_w_try_1_ap (c : Cs) (e : En) (m : Mu) : B_w_try_1 c e m = (dRet (dTup (dCons (dC (.str "")) (dCons (dAsk (LT0 c) 0 dNil) dNil)))) e m := rfl
noncomputable def B_w_try_2 (c : Cs) : DS := (dRet (dTup (dCons (dXf [c.cInvalidRatio] "code" (dVar 1)) (dCons (dFun (padF 1 [] (F_w_field c)) (dCons (dVar 1) dNil)) dNil))))
theorem B_w_try_2_ap (c : Cs) (e : En) (m : Mu) : B_w_try_2 c e m = (dRet (dTup (dCons (dXf [c.cInvalidRatio] "code" (dVar 1)) (dCons (dFun (padF 1 [] (F_w_field c)) (dCons (dVar 1) dNil)) dNil)))) e m := rfl
noncomputable def F_w_try (c : Cs) : DFn := dFn 2 (dTryAs [c.cInvalidRatio] 1 (B_w_try_1 c) (B_w_try_2 c))
noncomputable def B_law_1 (c : Cs) (g : List (Str × Addr)) : DS := (dSeq (dPar3 6 7 8 (dCons (dFun (padF 2 [] (F_w_take c)) (dCons (dVar 1) (dCons (dBin gAdd (dFun gLen (dCons (dVar 4) dNil)) (dC (.int 1))) dNil))) (dCons (dFun (padF 2 [] (F_w_take c)) (dCons (dVar 1) (dCons (dC (.int 3)) dNil))) (dCons (dFun (padF 2 [] (F_w_one c)) (dCons (dVar 1) (dCons (dC (.str "0123/- .a")) dNil))) dNil)))) (dSet 4 (dBin gAddS (dBin gAddS (dSlStr (dVar 4) dNoPart (dPart (dVar 6))) (dIf (dTst (dBin gEq (dVar 7) (dC (.int 0)))) (dC (.str "")) (dVar 8))) (dSlStr (dVar 4) (dPart (dBin gAdd (dVar 6) (dIf (dTst (dBin gEq (dVar 7) (dC (.int 1)))) (dC (.int 0)) (dC (.int 1))))) dNoPart))))
theorem B_law_1_ap (c : Cs) (g : List (Str × Addr)) (e : En) (m : Mu) : B_law_1 c g e m = (dSeq (dPar3 6 7 8 (dCons (dFun (padF 2 [] (F_w_take c)) (dCons (dVar 1) (dCons (dBin gAdd (dFun gLen (dCons (dVar 4) dNil)) (dC (.int 1))) dNil))) (dCons (dFun (padF 2 [] (F_w_take c)) (dCons (dVar 1) (dCons (dC (.int 3)) dNil))) (dCons (dFun (padF 2 [] (F_w_one c)) (dCons (dVar 1) (dCons (dC (.str "0123/- .a")) dNil))) dNil)))) (dSet 4 (dBin gAddS (dBin gAddS (dSlStr (dVar 4) dNoPart (dPart (dVar 6))) (dIf (dTst (dBin gEq (dVar 7) (dC (.int 0)))) (dC (.str "")) (dVar 8))) (dSlStr (dVar 4) (dPart (dBin gAdd (dVar 6) (dIf (dTst (dBin gEq (dVar 7) (dC (.int 1)))) (dC (.int 0)) (dC (.int 1))))) dNoPart)))) e m := rfl
noncomputable def B_law_2 (c : Cs) (g : List (Str × Addr)) : DS := (dSeq (dSet 3 (dFun (padF 1 [] (F_w_any_frac c)) (dCons (dVar 1) dNil))) (dSeq (dSet 4 (dFun (padF 2 [] (F_w_word c)) (dCons (dBin gIx (dVar 3) (dC (.int 0))) (dCons (dBin gIx (dVar 3) (dC (.int 1))) dNil)))) (dSeq (dIfS (dNotT (dTst (dFun (padF 2 [] (F_w_like c 8)) (dCons (dLst (dCons (dFun (padF 1 [] (F_w_parts c)) (dCons (dFun (fun ds => (padF 2 [] (F_Ratio_read c)) (.val (.ref c.cRatio) :: ds)) (dCons (dVar 4) dNil)) dNil)) (dCons (dFun (dOwnStr [(c.kRatio, (padF 1 [] (F_RatioD_strD c)))]) (dCons (dFunC 1 (GC_Ratio_Ratio_read_text c) (dCons (dVar 4) dNil)) dNil)) dNil))) (dCons (dLst (dCons (dVar 3) (dCons (dVar 4) dNil))) dNil))))) (dRet (dC (.bl false))) dSkip) (dSeq (dFor (dItR1 (dCons (dBin gAdd (dC (.int 1)) (dFun (padF 2 [] (F_w_take c)) (dCons (dVar 1) (dCons (dC (.int 2)) dNil)))) dNil)) (dName 5) (B_law_1 c g)) (dSeq (dSet 9 (dFun (padF 1 [] (F_w_ratio_in c)) (dCons (dVar 4) dNil))) (dSeq (dAsg (dFunL lr_law g (padF 1 [] (F_w_try c)) (dCons (dLam 0 (cloFrom g (LamTab.tab 0).scope.names [])) dNil)) (dTupG 2 (dGcons (dName 10) (dGcons (dName 11) dGnil)))) (dSeq (dIfS (dAndT (dTst (dBin gIsN (dVar 9) (dC .non))) (dNotT (dTst (dFun (padF 2 [] (F_w_like c 8)) (dCons (dTup (dCons (dVar 10) (dCons (dVar 11) dNil))) (dCons (dTup (dCons (dC (.str "InvalidRatio")) (dCons (dTup (dCons (dVar 4) dNil)) dNil))) dNil)))))) (dRet (dC (.bl false))) dSkip) (dSeq (dIfS (dAndT (dTst (dBin gNotN (dVar 9) (dC .non))) (dOrT (dTst (dBin gNe (dVar 10) (dC (.str "")))) (dNotT (dTst (dFun (padF 2 [] (F_w_like c 8)) (dCons (dFun (padF 1 [] (F_w_parts c)) (dCons (dVar 11) dNil)) (dCons (dVar 9) dNil))))))) (dRet (dC (.bl false))) dSkip) (dSeq (dSet 12 (dFun (padF 2 [] (F_w_one c)) (dCons (dVar 1) (dCons (dLst (dCons (dC (.str "")) (dCons (dC (.str "-")) (dCons (dC (.str "/")) (dCons (dC (.str "1/")) (dCons (dC (.str "/2")) (dCons (dC (.str "2/4")) (dCons (dC (.str "-0")) (dCons (dC (.str "0/1")) (dCons (dC (.str "0/2")) (dCons (dC (.str "1/1")) (dCons (dC (.str "1/-2")) (dCons (dC (.str "+1")) (dCons (dC (.str "01")) (dCons (dC (.str "1/02")) (dCons (dC (.str " 1")) (dCons (dC (.str "1 ")) (dCons (dC (.str "1/2/3")) (dCons (dC (.str "1.0")) (dCons (dC (.str "--1")) (dCons (dC (.str "1\n")) (dCons (dC .non) (dCons (dC (.int 1)) (dCons (dC (.bl true)) (dCons (dTup (dCons (dC (.str "1")) dNil)) (dCons (dLst (dCons (dC (.str "1")) dNil)) (dCons (dBin gRepS (dC (.str "9")) (dC (.int 101))) dNil))))))))))))))))))))))))))) dNil)))) (dIfS (dNotT (dTst (dFun (padF 2 [] (F_w_like c 8)) (dCons (dFunL lr_law g (padF 1 [] (F_w_try c)) (dCons (dLam 1 (cloFrom g (LamTab.tab 1).scope.names [])) dNil)) (dCons (dTup (dCons (dC (.str "InvalidRatio")) (dCons (dTup (dCons (dVar 12) dNil)) dNil))) dNil))))) (dRet (dC (.bl false))) dSkip))))))))))
theorem B_law_2_ap (c : Cs) (g : List (Str × Addr)) (e : En) (m : Mu) : B_law_2 c g e m = (dSeq (dSet 3 (dFun (padF 1 [] (F_w_any_frac c)) (dCons (dVar 1) dNil))) (dSeq (dSet 4 (dFun (padF 2 [] (F_w_word c)) (dCons (dBin gIx (dVar 3) (dC (.int 0))) (dCons (dBin gIx (dVar 3) (dC (.int 1))) dNil)))) (dSeq (dIfS (dNotT (dTst (dFun (padF 2 [] (F_w_like c 8)) (dCons (dLst (dCons (dFun (padF 1 [] (F_w_parts c)) (dCons (dFun (fun ds => (padF 2 [] (F_Ratio_read c)) (.val (.ref c.cRatio) :: ds)) (dCons (dVar 4) dNil)) dNil)) (dCons (dFun (dOwnStr [(c.kRatio, (padF 1 [] (F_RatioD_strD c)))]) (dCons (dFunC 1 (GC_Ratio_Ratio_read_text c) (dCons (dVar 4) dNil)) dNil)) dNil))) (dCons (dLst (dCons (dVar 3) (dCons (dVar 4) dNil))) dNil))))) (dRet (dC (.bl false))) dSkip) (dSeq (dFor (dItR1 (dCons (dBin gAdd (dC (.int 1)) (dFun (padF 2 [] (F_w_take c)) (dCons (dVar 1) (dCons (dC (.int 2)) dNil)))) dNil)) (dName 5) (B_law_1 c g)) (dSeq (dSet 9 (dFun (padF 1 [] (F_w_ratio_in c)) (dCons (dVar 4) dNil))) (dSeq (dAsg (dFunL lr_law g (padF 1 [] (F_w_try c)) (dCons (dLam 0 (cloFrom g (LamTab.tab 0).scope.names [])) dNil)) (dTupG 2 (dGcons (dName 10) (dGcons (dName 11) dGnil)))) (dSeq (dIfS (dAndT (dTst (dBin gIsN (dVar 9) (dC .non))) (dNotT (dTst (dFun (padF 2 [] (F_w_like c 8)) (dCons (dTup (dCons (dVar 10) (dCons (dVar 11) dNil))) (dCons (dTup (dCons (dC (.str "InvalidRatio")) (dCons (dTup (dCons (dVar 4) dNil)) dNil))) dNil)))))) (dRet (dC (.bl false))) dSkip) (dSeq (dIfS (dAndT (dTst (dBin gNotN (dVar 9) (dC .non))) (dOrT (dTst (dBin gNe (dVar 10) (dC (.str "")))) (dNotT (dTst (dFun (padF 2 [] (F_w_like c 8)) (dCons (dFun (padF 1 [] (F_w_parts c)) (dCons (dVar 11) dNil)) (dCons (dVar 9) dNil))))))) (dRet (dC (.bl false))) dSkip) (dSeq (dSet 12 (dFun (padF 2 [] (F_w_one c)) (dCons (dVar 1) (dCons (dLst (dCons (dC (.str "")) (dCons (dC (.str "-")) (dCons (dC (.str "/")) (dCons (dC (.str "1/")) (dCons (dC (.str "/2")) (dCons (dC (.str "2/4")) (dCons (dC (.str "-0")) (dCons (dC (.str "0/1")) (dCons (dC (.str "0/2")) (dCons (dC (.str "1/1")) (dCons (dC (.str "1/-2")) (dCons (dC (.str "+1")) (dCons (dC (.str "01")) (dCons (dC (.str "1/02")) (dCons (dC (.str " 1")) (dCons (dC (.str "1 ")) (dCons (dC (.str "1/2/3")) (dCons (dC (.str "1.0")) (dCons (dC (.str "--1")) (dCons (dC (.str "1\n")) (dCons (dC .non) (dCons (dC (.int 1)) (dCons (dC (.bl true)) (dCons (dTup (dCons (dC (.str "1")) dNil)) (dCons (dLst (dCons (dC (.str "1")) dNil)) (dCons (dBin gRepS (dC (.str "9")) (dC (.int 101))) dNil))))))))))))))))))))))))))) dNil)))) (dIfS (dNotT (dTst (dFun (padF 2 [] (F_w_like c 8)) (dCons (dFunL lr_law g (padF 1 [] (F_w_try c)) (dCons (dLam 1 (cloFrom g (LamTab.tab 1).scope.names [])) dNil)) (dCons (dTup (dCons (dC (.str "InvalidRatio")) (dCons (dTup (dCons (dVar 12) dNil)) dNil))) dNil))))) (dRet (dC (.bl false))) dSkip)))))))))) e m := rfl
noncomputable def D_law (c : Cs) (g : List (Str × Addr)) : DS := (dSeq (dSet 1 (dFun (padF 1 [] (F_w_begin c)) (dCons (dVar 0) dNil))) (dSeq (dFor (dItR1 (dCons (dC (.int 10)) dNil)) (dName 2) (B_law_2 c g)) (dRet (dFun (padF 2 [] (F_w_like c 8)) (dCons (dFun (padF 1 [] (F_w_parts c)) (dCons (dFun (fun ds => (padF 2 [] (F_Ratio_read c)) (.val (.ref c.cRatio) :: ds)) (dCons (dBin gRepS (dC (.str "9")) (dC (.int 100))) dNil)) dNil)) (dCons (dTup (dCons (dFun gIntS (dCons (dBin gRepS (dC (.str "9")) (dC (.int 100))) dNil)) (dCons (dC (.int 1)) dNil))) dNil))))))
noncomputable def F_law (c : Cs) : DFn := fun ds m => allG fun g => dFn 13 (D_law c g) ds m
end W

set_option maxHeartbeats 0
namespace W
open PySem PySem.Spec L2 DL
theorem sc_w_begin : FnScope ["_law_script"] ["_law_script"] (defScope s_w_begin) := ⟨rfl, rfl, rfl, by decide +kernel, rfl, by decide +kernel, by decide +kernel⟩
theorem sc_w_take : FnScope ["_law_bag", "_law_many", "_law_cell", "_law_digit", "_law_old"] ["_law_bag", "_law_many"] (defScope s_w_take) := ⟨rfl, rfl, rfl, by decide +kernel, rfl, by decide +kernel, by decide +kernel⟩
theorem sc_w_one : FnScope ["_law_bag", "_law_row"] ["_law_bag", "_law_row"] (defScope s_w_one) := ⟨rfl, rfl, rfl, by decide +kernel, rfl, by decide +kernel, by decide +kernel⟩
theorem sc_w_divisor : FnScope ["_law_a", "_law_b"] ["_law_a", "_law_b"] (defScope s_w_divisor) := ⟨rfl, rfl, rfl, by decide +kernel, rfl, by decide +kernel, by decide +kernel⟩
theorem sc_w_frac : FnScope ["_law_a", "_law_b", "_law_by"] ["_law_a", "_law_b"] (defScope s_w_frac) := ⟨rfl, rfl, rfl, by decide +kernel, rfl, by decide +kernel, by decide +kernel⟩
theorem sc_w_any_frac : FnScope ["_law_bag", "_law_b", "_law_a"] ["_law_bag"] (defScope s_w_any_frac) := ⟨rfl, rfl, rfl, by decide +kernel, rfl, by decide +kernel, by decide +kernel⟩
theorem sc_w_word : FnScope ["_law_a", "_law_b", "_law_top", "_law_bottom"] ["_law_a", "_law_b"] (defScope s_w_word) := ⟨rfl, rfl, rfl, by decide +kernel, rfl, by decide +kernel, by decide +kernel⟩
theorem sc_CycleErrorD_initD : FnScopeS ["self", "code"] ["self", "code"] (defScope s_CycleErrorD_initD) := ⟨rfl, rfl, rfl, by decide +kernel, rfl, by decide +kernel, by decide +kernel, by decide +kernel⟩
theorem sc_InvalidRatioD_initD : FnScopeS ["self", "given"] ["self", "given"] (defScope s_InvalidRatioD_initD) := ⟨rfl, rfl, rfl, by decide +kernel, rfl, by decide +kernel, by decide +kernel, by decide +kernel⟩
theorem sc_whole_in : FnScope ["word", "digits", "sign", "found"] ["word"] (defScope s_whole_in) := ⟨rfl, rfl, rfl, by decide +kernel, rfl, by decide +kernel, by decide +kernel⟩
theorem sc_is_whole : FnScope ["value"] ["value"] (defScope s_is_whole) := ⟨rfl, rfl, rfl, by decide +kernel, rfl, by decide +kernel, by decide +kernel⟩
theorem sc_common_divisor : FnScope ["one", "other"] ["one", "other"] (defScope s_common_divisor) := ⟨rfl, rfl, rfl, by decide +kernel, rfl, by decide +kernel, by decide +kernel⟩
theorem sc_RatioD_initD : FnScope ["self", "top", "bottom", "divisor"] ["self", "top", "bottom"] (defScope s_RatioD_initD) := ⟨rfl, rfl, rfl, by decide +kernel, rfl, by decide +kernel, by decide +kernel⟩
theorem sc_RatioD_strD : FnScope ["self"] ["self"] (defScope s_RatioD_strD) := ⟨rfl, rfl, rfl, by decide +kernel, rfl, by decide +kernel, by decide +kernel⟩
theorem sc_Ratio_read : FnScope ["cls", "text", "front", "sign", "behind", "top", "bottom", "found"] ["cls", "text"] (defScope s_Ratio_read) := ⟨rfl, rfl, rfl, by decide +kernel, rfl, by decide +kernel, by decide +kernel⟩
theorem sc_Ratio_bottom : FnScope ["self"] ["self"] (defScope s_Ratio_bottom) := ⟨rfl, rfl, rfl, by decide +kernel, rfl, by decide +kernel, by decide +kernel⟩
theorem sc_Ratio_top : FnScope ["self"] ["self"] (defScope s_Ratio_top) := ⟨rfl, rfl, rfl, by decide +kernel, rfl, by decide +kernel, by decide +kernel⟩
theorem sc_w_parts : FnScope ["_law_found"] ["_law_found"] (defScope s_w_parts) := ⟨rfl, rfl, rfl, by decide +kernel, rfl, by decide +kernel, by decide +kernel⟩
theorem sc_RatioD_eqD : FnScope ["self", "other"] ["self", "other"] (defScope s_RatioD_eqD) := ⟨rfl, rfl, rfl, by decide +kernel, rfl, by decide +kernel, by decide +kernel⟩
theorem sc_w_like : FnScope ["_law_found", "_law_due", "_law_one_here", "_law_two"] ["_law_found", "_law_due"] (defScope s_w_like) := ⟨rfl, rfl, rfl, by decide +kernel, rfl, by decide +kernel, by decide +kernel⟩
theorem sc_w_ratio_in : FnScope ["_law_text_z", "_law_front", "_law_sign", "_law_behind", "_law_digits", "_law_word_here", "_law_one_here", "_law_p"] ["_law_text_z"] (defScope s_w_ratio_in) := ⟨rfl, rfl, rfl, by decide +kernel, rfl, by decide +kernel, by decide +kernel⟩
theorem sc_w_field : FnScope ["_law_e"] ["_law_e"] (defScope s_w_field) := ⟨rfl, rfl, rfl, by decide +kernel, rfl, by decide +kernel, by decide +kernel⟩
theorem sc_w_try : FnScope ["_law_ask", "_law_e"] ["_law_ask"] (defScope s_w_try) := ⟨rfl, rfl, rfl, by decide +kernel, rfl, by decide +kernel, by decide +kernel⟩
theorem sc_law : FnScope ["_law_script", "_law_bag", "_law_turn", "_law_p", "_law_word_here", "_law_again", "_law_at", "_law_way", "_law_sign", "_law_due", "_law_code", "_law_told", "_law_bad"] ["_law_script"] (defScope s_law) := ⟨rfl, rfl, rfl, by decide +kernel, rfl, by decide +kernel, by decide +kernel⟩
theorem lf_0 : lamFree (defScope s_law) (lamTab 0).scope ["_law_word_here"] = true := by decide +kernel
theorem lb_0 : LBind (LamTab.tab 0) := lbind0 rfl rfl (fun _ _ _ _ _ _ _ => rfl) (fun _ _ _ _ _ _ _ _ => ⟨_, rfl, rfl⟩)
theorem lf_1 : lamFree (defScope s_law) (lamTab 1).scope ["_law_bad"] = true := by decide +kernel
theorem lb_1 : LBind (LamTab.tab 1) := lbind0 rfl rfl (fun _ _ _ _ _ _ _ => rfl) (fun _ _ _ _ _ _ _ _ => ⟨_, rfl, rfl⟩)
theorem lrb_0 : lamRowB ["_law_script", "_law_bag", "_law_turn", "_law_p", "_law_word_here", "_law_again", "_law_at", "_law_way", "_law_sign", "_law_due", "_law_code", "_law_told", "_law_bad"] (defScope s_law) (lamTab 0) [4] = true := by decide +kernel
theorem lrb_1 : lamRowB ["_law_script", "_law_bag", "_law_turn", "_law_p", "_law_word_here", "_law_again", "_law_at", "_law_way", "_law_sign", "_law_due", "_law_code", "_law_told", "_law_bad"] (defScope s_law) (lamTab 1) [12] = true := by decide +kernel
theorem lro_law : ∀ r ∈ lr_law, lamRowB ["_law_script", "_law_bag", "_law_turn", "_law_p", "_law_word_here", "_law_again", "_law_at", "_law_way", "_law_sign", "_law_due", "_law_code", "_law_told", "_law_bad"] (defScope s_law) (LamTab.tab r.1) r.2 = true := by
  intro r hr; unfold lr_law at hr; simp only [List.mem_cons, List.not_mem_nil, or_false] at hr
  rcases hr with rfl | rfl <;> first | exact lrb_0 | exact lrb_1
structure Txt (P : Program) (K : PySem.W.Frag) (mg : Str → Option Value) (base : Heap) (c : Cs) : Prop where
  sup : (P.main.scope.names.lookup ("super" : Str)).isSome = false ∧ mg "super" = none ∧ PySem.W.nsIn K cStatics "thirdparty.any" = some none
  fn_w_begin : ∃ (f : Addr) (fd : FuncData), mg "_law_begin" = some (.ref f) ∧ FunD K "_law_begin" "_law_begin" (defArgs s_w_begin) (defBody s_w_begin) (defScope s_w_begin) [] [] f fd
  fn_w_take : ∃ (f : Addr) (fd : FuncData), mg "_law_take" = some (.ref f) ∧ FunD K "_law_take" "_law_take" (defArgs s_w_take) (defBody s_w_take) (defScope s_w_take) [] [] f fd
  fn_w_one : ∃ (f : Addr) (fd : FuncData), mg "_law_one" = some (.ref f) ∧ FunD K "_law_one" "_law_one" (defArgs s_w_one) (defBody s_w_one) (defScope s_w_one) [] [] f fd
  fn_w_divisor : ∃ (f : Addr) (fd : FuncData), mg "_law_divisor" = some (.ref f) ∧ FunD K "_law_divisor" "_law_divisor" (defArgs s_w_divisor) (defBody s_w_divisor) (defScope s_w_divisor) [] [] f fd
  fn_w_frac : ∃ (f : Addr) (fd : FuncData), mg "_law_frac" = some (.ref f) ∧ FunD K "_law_frac" "_law_frac" (defArgs s_w_frac) (defBody s_w_frac) (defScope s_w_frac) [] [] f fd
  fn_w_any_frac : ∃ (f : Addr) (fd : FuncData), mg "_law_any_frac" = some (.ref f) ∧ FunD K "_law_any_frac" "_law_any_frac" (defArgs s_w_any_frac) (defBody s_w_any_frac) (defScope s_w_any_frac) [] [] f fd
  fn_w_word : ∃ (f : Addr) (fd : FuncData), mg "_law_word" = some (.ref f) ∧ FunD K "_law_word" "_law_word" (defArgs s_w_word) (defBody s_w_word) (defScope s_w_word) [] [] f fd
  me_CycleErrorD_initD : ∃ (f : Addr) (fd : FuncData) (cc : Addr), PySem.W.findIn K (.ref c.cCycleError) "__init__" = some (some (.ref f)) ∧ PySem.W.isFn K (.ref f) = true ∧ PySem.W.typeIn K (.ref f) = some (.type "function") ∧ PySem.W.fnIn K f = true ∧ (PySem.W.ks_superIn K c.cInvalidRatio c.cInvalidRatio "__init__" = some (some (.ref f)) ∧ PySem.W.mroIn K c.cInvalidRatio (.ref c.cInvalidRatio) = some true) ∧ FunS P K "__init__" "CycleError.__init__" (defArgs s_CycleErrorD_initD) (defBody s_CycleErrorD_initD) (defScope s_CycleErrorD_initD) [] f fd c.cCycleError cc
  me_InvalidRatioD_initD : ∃ (f : Addr) (fd : FuncData) (cc : Addr), PySem.W.findIn K (.ref c.cInvalidRatio) "__init__" = some (some (.ref f)) ∧ PySem.W.isFn K (.ref f) = true ∧ PySem.W.typeIn K (.ref f) = some (.type "function") ∧ PySem.W.fnIn K f = true ∧ FunS P K "__init__" "InvalidRatio.__init__" (defArgs s_InvalidRatioD_initD) (defBody s_InvalidRatioD_initD) (defScope s_InvalidRatioD_initD) [] f fd c.cInvalidRatio cc
  fn_whole_in : ∃ (f : Addr) (fd : FuncData), mg "whole_in" = some (.ref f) ∧ FunD K "whole_in" "whole_in" (defArgs s_whole_in) (defBody s_whole_in) (defScope s_whole_in) [] [] f fd
  fn_is_whole : ∃ (f : Addr) (fd : FuncData), mg "is_whole" = some (.ref f) ∧ FunD K "is_whole" "is_whole" (defArgs s_is_whole) (defBody s_is_whole) (defScope s_is_whole) [] [] f fd
  fn_common_divisor : ∃ (f : Addr) (fd : FuncData), mg "common_divisor" = some (.ref f) ∧ FunD K "common_divisor" "common_divisor" (defArgs s_common_divisor) (defBody s_common_divisor) (defScope s_common_divisor) [] [] f fd
  me_RatioD_initD : ∃ (f : Addr) (fd : FuncData), PySem.W.findIn K (.ref c.cRatio) "__init__" = some (some (.ref f)) ∧ PySem.W.isFn K (.ref f) = true ∧ FunD K "__init__" "Ratio.__init__" (defArgs s_RatioD_initD) (defBody s_RatioD_initD) (defScope s_RatioD_initD) [.int 1] [] f fd
  me_RatioD_strD : ∃ (f : Addr) (fd : FuncData), PySem.W.findIn K (.ref c.cRatio) "__str__" = some (some (.ref f)) ∧ PySem.W.isFn K (.ref f) = true ∧ FunD K "__str__" "Ratio.__str__" (defArgs s_RatioD_strD) (defBody s_RatioD_strD) (defScope s_RatioD_strD) [] [] f fd
  cm_Ratio_read : ∃ (pp f : Addr) (fd : FuncData), PySem.W.readsIn K c.cRatio (.type "type") = true ∧ PySem.W.specialIn K (.ref c.cRatio) "__getattribute__" = some (some (.builtin "type.__getattribute__")) ∧ PySem.W.findCls K (.ref c.cRatio) (.type "type") "read" = some (.get (.builtin "classmethod.__get__") (.ref pp) .none (.ref c.cRatio)) ∧ (∃ rest, PySem.W.recIn K pp "classmethod" = some (.ref f :: rest)) ∧ PySem.W.fnIn K f = true ∧ FunD K "read" "Ratio.read" (defArgs s_Ratio_read) (defBody s_Ratio_read) (defScope s_Ratio_read) [] [] f fd
  pr_Ratio_bottom : ∃ (pp g : Addr) (fd : FuncData), PropOf K c.cRatio "bottom" pp g ∧ FunD K "bottom" "Ratio.bottom" (defArgs s_Ratio_bottom) (defBody s_Ratio_bottom) (defScope s_Ratio_bottom) [] [] g fd
  pr_Ratio_top : ∃ (pp g : Addr) (fd : FuncData), PropOf K c.cRatio "top" pp g ∧ FunD K "top" "Ratio.top" (defArgs s_Ratio_top) (defBody s_Ratio_top) (defScope s_Ratio_top) [] [] g fd
  fn_w_parts : ∃ (f : Addr) (fd : FuncData), mg "_law_parts" = some (.ref f) ∧ FunD K "_law_parts" "_law_parts" (defArgs s_w_parts) (defBody s_w_parts) (defScope s_w_parts) [] [] f fd
  me_RatioD_eqD : ∃ (f : Addr) (fd : FuncData), PySem.W.findIn K (.ref c.cRatio) "__eq__" = some (some (.ref f)) ∧ PySem.W.isFn K (.ref f) = true ∧ FunD K "__eq__" "Ratio.__eq__" (defArgs s_RatioD_eqD) (defBody s_RatioD_eqD) (defScope s_RatioD_eqD) [] [] f fd
  fn_w_like : ∃ (f : Addr) (fd : FuncData), mg "_law_like" = some (.ref f) ∧ FunD K "_law_like" "_law_like" (defArgs s_w_like) (defBody s_w_like) (defScope s_w_like) [] [] f fd
  fn_w_ratio_in : ∃ (f : Addr) (fd : FuncData), mg "_law_ratio_in" = some (.ref f) ∧ FunD K "_law_ratio_in" "_law_ratio_in" (defArgs s_w_ratio_in) (defBody s_w_ratio_in) (defScope s_w_ratio_in) [] [] f fd
  fn_w_field : ∃ (f : Addr) (fd : FuncData), mg "_law_field" = some (.ref f) ∧ FunD K "_law_field" "_law_field" (defArgs s_w_field) (defBody s_w_field) (defScope s_w_field) [] [] f fd
  fn_w_try : ∃ (f : Addr) (fd : FuncData), mg "_law_try" = some (.ref f) ∧ FunD K "_law_try" "_law_try" (defArgs s_w_try) (defBody s_w_try) (defScope s_w_try) [] [] f fd
  fn_law : ∃ (f : Addr) (fd : FuncData), mg "law" = some (.ref f) ∧ MkOk K mg base (("law" : Str) ++ (".<locals>." : Str) ++ ("<lambda>" : Str)) f ∧ FunD K "law" "law" (defArgs s_law) (defBody s_law) (defScope s_law) [] [] f fd
  b_abs : mg "abs" = none
  b_all : mg "all" = none
  b_bool : mg "bool" = none
  b_int : mg "int" = none
  b_isinstance : mg "isinstance" = none
  b_len : mg "len" = none
  b_list : mg "list" = none
  b_range : mg "range" = none
  b_str : mg "str" = none
  b_tuple : mg "tuple" = none
  b_zip : mg "zip" = none
  g_FIGURES : ∃ t, mg "FIGURES" = some (.str "0123456789" t)
  g_LONGEST_TEXT : ∃ t, mg "LONGEST_TEXT" = some (.int 100 t)
  gc_CycleError : mg "CycleError" = some (.ref c.cCycleError)
  gc_InvalidRatio : mg "InvalidRatio" = some (.ref c.cInvalidRatio)
  gc_Missing : mg "Missing" = some (.ref c.cMissing)
  gc_NothingLeft : mg "NothingLeft" = some (.ref c.cNothingLeft)
  cl_Ratio : Cls K c.cRatio
  gc_Ratio : mg "Ratio" = some (.ref c.cRatio)
  ox_InvalidRatio : OexG K c.cInvalidRatio
  xf_InvalidRatio : XfC K c.cInvalidRatio
  nx_InvalidRatio_code : PySem.W.findIn K (.ref c.cInvalidRatio) "code" = some none
  nx_InvalidRatio_given : PySem.W.findIn K (.ref c.cInvalidRatio) "given" = some none
  sb_InvalidRatio_CycleError : SupBi K c.cCycleError c.cInvalidRatio
  xm_CycleError_Missing_NothingLeft_InvalidRatio : PySem.W.exmAny K (.ref c.cInvalidRatio) [.ref c.cCycleError, .ref c.cMissing, .ref c.cNothingLeft] = some true
  mk_Ratio : PySem.W.makesIn K c.cRatio = true ∧ PySem.W.keepIn K (.ref c.cRatio) = true
  fl_Ratio_own_bottom : FldOk K "own_bottom" c.kRatio 1
  fl_Ratio_own_top : FldOk K "own_top" c.kRatio 0
  in_Ratio : InsK K c.cRatio
  nf_Ratio_primNoneType : PySem.W.notFirst K c.cRatio (Tg.val (.prim "NoneType")) = true
  nf_Ratio_primbool : PySem.W.notFirst K c.cRatio (Tg.val (.prim "bool")) = true
  nf_Ratio_primint : PySem.W.notFirst K c.cRatio (Tg.val (.prim "int")) = true
  nf_Ratio_primlist : PySem.W.notFirst K c.cRatio (Tg.val (.prim "list")) = true
  nf_Ratio_primstr : PySem.W.notFirst K c.cRatio (Tg.val (.prim "str")) = true
  nf_Ratio_primtuple : PySem.W.notFirst K c.cRatio (Tg.val (.prim "tuple")) = true
  ans_Ratio : AnsOk K (ans_Ratio c) [.ref c.cRatio]
  ans_Ratio__Ratio : AnsOk K (ans_Ratio__Ratio c) [.ref c.cRatio]
  ans_bool : AnsOk K (ans_bool c) [.type "bool"]
  ans_bool__Ratio : AnsOk K (ans_bool__Ratio c) [.type "bool"]
  ans_int : AnsOk K (ans_int c) [.type "int"]
  ans_int__Ratio : AnsOk K (ans_int__Ratio c) [.type "int"]
  ans_list : AnsOk K (ans_list c) [.type "list"]
  ans_list__Ratio : AnsOk K (ans_list__Ratio c) [.type "list"]
  ans_list_tuple : AnsOk K (ans_list_tuple c) [.type "list", .type "tuple"]
  ans_str : AnsOk K (ans_str c) [.type "str"]
  ans_str__Ratio : AnsOk K (ans_str__Ratio c) [.type "str"]
  ans_tuple : AnsOk K (ans_tuple c) [.type "tuple"]
  ans_tuple__Ratio : AnsOk K (ans_tuple__Ratio c) [.type "tuple"]
section
variable {P : Program} {w : World} {K : PySem.W.Frag} {mg : Str → Option Value} {base : Heap} {c : Cs}
theorem ok_w_begin (T : Txt P K mg base c) {f : Addr} {fd : FuncData} (FD : FunD K "_law_begin" "_law_begin" (defArgs s_w_begin) (defBody s_w_begin) (defScope s_w_begin) [] [] f fd) : FnD P w K mg base 1 f fd ["_law_script"] (F_w_begin c) := fnD_of (N := ["_law_script"]) FD sc_w_begin (fun cdv A outer s H E hr => by
    refine pds_one ?_
    refine pds_ret ?_
    refine pd_loc ?_
    refine pda_c ?_ ?_
    refine pd_bt oc_list T.b_list (by decide +kernel) ?_
    refine pda_c ?_ pda_nil
    refine pd_sl ?_ pdo_none ?_
    exact (pd_var 0)
    exact (pdo_some pd_int)
    refine pda_int ?_
    refine pda_int ?_
    refine pda_c ?_ pda_nil
    refine pd_op od_add pd_int ?_
    refine pd_op od_mul pd_int ?_
    refine pd_bc oc_len T.b_len (by decide +kernel) ?_
    refine pda_c ?_ pda_nil
    refine pd_sl ?_ pdo_none ?_
    exact (pd_var 0)
    exact (pdo_some pd_int))
theorem ft_w_begin_1 (T : Txt P K mg base c) : FT P w K mg base 1 "_law_begin" (padF 1 [] (F_w_begin c)) := by
  obtain ⟨f, fd, hm, FD⟩ := T.fn_w_begin
  exact ⟨f, fd, _, _, _, hm, FD.kp, ok_w_begin T FD, (Bd.nil (FD.bindsN (fun _ _ _ _ _ _ us hl => match us, hl with | [_], _ => rfl))), rfl⟩
theorem ok_w_take (T : Txt P K mg base c) {f : Addr} {fd : FuncData} (FD : FunD K "_law_take" "_law_take" (defArgs s_w_take) (defBody s_w_take) (defScope s_w_take) [] [] f fd) : FnD P w K mg base 2 f fd ["_law_bag", "_law_many"] (F_w_take c) := fnD_of (N := ["_law_bag", "_law_many", "_law_cell", "_law_digit", "_law_old"]) FD sc_w_take (fun cdv A outer s H E hr => by
    refine pds_cons ?_ ?_
    refine pds_if ?_ ?_ pds_nil
    refine PDW.pt ?_
    refine pdw_and ?_ ?_
    refine pdt_cmp (od_eq hr.units) ?_ pd_int
    refine pd_ix ?_ pd_int
    exact (pd_var 0)
    refine pdw_and1 ?_
    refine pdt_cmp od_lt ?_ ?_
    refine pd_ix ?_ pd_int
    exact (pd_var 0)
    refine pd_bc oc_len T.b_len (by decide +kernel) ?_
    refine pda_c ?_ pda_nil
    refine pd_ix ?_ pd_int
    exact (pd_var 0)
    refine pds_cons ?_ ?_
    refine pds_set (i := 2) ?_ sc_w_take.nd
    refine pd_bc oc_abs T.b_abs (by decide +kernel) ?_
    refine pda_c ?_ pda_nil
    refine pd_ix ?_ ?_
    refine pd_ix ?_ pd_int
    exact (pd_var 0)
    refine pd_ix ?_ pd_int
    exact (pd_var 0)
    refine pds_cons ?_ ?_
    refine pds_putI ?_ ?_ pd_int
    refine pd_op od_add ?_ pd_int
    refine pd_ix ?_ pd_int
    exact (pd_var 0)
    exact (pd_var 0)
    refine pds_one ?_
    refine pds_if ?_ ?_ ?_
    refine pdt_cmp od_ge ?_ ?_
    exact (pd_var 2)
    exact (pd_op od_pow pd_int pd_int)
    refine pds_one ?_
    refine pds_putI ?_ ?_ pd_int
    exact (pd_var 2)
    exact (pd_var 0)
    refine pds_one ?_
    refine pds_putI ?_ ?_ pd_int
    refine pd_op od_mod ?_ pd_int
    refine pd_bt oc_int T.b_int (by decide +kernel) ?_
    refine pda_c ?_ pda_nil
    refine pd_op od_add ?_ ?_
    refine pd_op od_add ?_ ?_
    refine pd_op od_mul ?_ pd_int
    refine pd_ix ?_ pd_int
    exact (pd_var 0)
    refine pd_op od_mul ?_ pd_int
    refine pd_op od_mod ?_ pd_int
    refine pd_bt oc_int T.b_int (by decide +kernel) ?_
    refine pda_c ?_ pda_nil
    exact (pd_var 2)
    refine pd_ix ?_ pd_int
    exact (pd_var 0)
    exact (pd_var 0)
    refine pds_cons ?_ ?_
    refine pds_if ?_ ?_ pds_nil
    refine pdt_cmp od_gt ?_ pd_int
    refine pd_ix ?_ pd_int
    exact (pd_var 0)
    refine pds_cons ?_ ?_
    refine pds_set (i := 3) ?_ sc_w_take.nd
    refine pd_op od_mod ?_ ?_
    refine pd_bt oc_int T.b_int (by decide +kernel) ?_
    refine pda_c ?_ pda_nil
    refine pd_ix ?_ pd_int
    exact (pd_var 0)
    exact (pd_var 1)
    refine pds_cons ?_ ?_
    refine pds_putI ?_ ?_ pd_int
    refine pd_op od_div ?_ ?_
    refine pd_ix ?_ pd_int
    exact (pd_var 0)
    exact (pd_var 1)
    exact (pd_var 0)
    refine pds_one ?_
    refine pds_ret ?_
    exact (pd_var 3)
    refine pds_cons ?_ ?_
    refine pds_set (i := 4) ?_ sc_w_take.nd
    refine pd_ix ?_ pd_int
    exact (pd_var 0)
    refine pds_cons ?_ ?_
    refine pds_putI ?_ ?_ pd_int
    refine pd_op od_mod ?_ pd_int
    refine pd_bt oc_int T.b_int (by decide +kernel) ?_
    refine pda_c ?_ pda_nil
    refine pd_op od_add ?_ pd_int
    refine pd_op od_add ?_ ?_
    refine pd_op od_mul ?_ ?_
    exact (pd_var 4)
    exact (pd_var 4)
    refine pd_op od_mul ?_ pd_int
    exact (pd_var 4)
    exact (pd_var 0)
    refine pds_one ?_
    refine pds_ret ?_
    refine pd_op od_mod ?_ ?_
    refine pd_bt oc_int T.b_int (by decide +kernel) ?_
    refine pda_c ?_ pda_nil
    refine pd_op od_add ?_ ?_
    refine pd_op od_div ?_ pd_int
    refine pd_ix ?_ pd_int
    exact (pd_var 0)
    refine pd_op od_mul ?_ pd_int
    refine pd_op od_mod ?_ pd_int
    refine pd_bt oc_int T.b_int (by decide +kernel) ?_
    refine pda_c ?_ pda_nil
    refine pd_ix ?_ pd_int
    exact (pd_var 0)
    exact (pd_var 1))
theorem ft_w_take_2 (T : Txt P K mg base c) : FT P w K mg base 2 "_law_take" (padF 2 [] (F_w_take c)) := by
  obtain ⟨f, fd, hm, FD⟩ := T.fn_w_take
  exact ⟨f, fd, _, _, _, hm, FD.kp, ok_w_take T FD, (Bd.nil (FD.bindsN (fun _ _ _ _ _ _ us hl => match us, hl with | [_, _], _ => rfl))), rfl⟩
theorem ok_w_one (T : Txt P K mg base c) {f : Addr} {fd : FuncData} (FD : FunD K "_law_one" "_law_one" (defArgs s_w_one) (defBody s_w_one) (defScope s_w_one) [] [] f fd) : FnD P w K mg base 3 f fd ["_law_bag", "_law_row"] (F_w_one c) := fnD_of (N := ["_law_bag", "_law_row"]) FD sc_w_one (fun cdv A outer s H E hr => by
    refine pds_one ?_
    refine pds_ret ?_
    refine pd_ix ?_ ?_
    exact (pd_var 1)
    refine pd_fun (ft_w_take_2 T) (hr.mono (by decide)) ?_
    refine pda_c ?_ ?_
    exact (pd_var 0)
    refine pda_c ?_ pda_nil
    refine pd_bc oc_len T.b_len (by decide +kernel) ?_
    refine pda_c ?_ pda_nil
    exact (pd_var 1))
theorem ft_w_one_2 (T : Txt P K mg base c) : FT P w K mg base 3 "_law_one" (padF 2 [] (F_w_one c)) := by
  obtain ⟨f, fd, hm, FD⟩ := T.fn_w_one
  exact ⟨f, fd, _, _, _, hm, FD.kp, ok_w_one T FD, (Bd.nil (FD.bindsN (fun _ _ _ _ _ _ us hl => match us, hl with | [_, _], _ => rfl))), rfl⟩
theorem ok_w_divisor (T : Txt P K mg base c) {f : Addr} {fd : FuncData} (FD : FunD K "_law_divisor" "_law_divisor" (defArgs s_w_divisor) (defBody s_w_divisor) (defScope s_w_divisor) [] [] f fd) : FnD P w K mg base 1 f fd ["_law_a", "_law_b"] (F_w_divisor c) := fnD_of (N := ["_law_a", "_law_b"]) FD sc_w_divisor (fun cdv A outer s H E hr => by
    refine pds_cons ?_ ?_
    refine pds_while ?_ ?_ (passes_of rfl)
    refine pdt_cmp od_gt ?_ pd_int
    exact (pd_var 1)
    refine pds_one ?_
    refine pds_par (i := 0) (j := 1) ?_ (by rfl) sc_w_divisor.nd
    refine pda_c ?_ ?_
    exact (pd_var 1)
    refine pda_c ?_ pda_nil
    refine pd_op od_mod ?_ ?_
    refine pd_bt oc_int T.b_int (by decide +kernel) ?_
    refine pda_c ?_ pda_nil
    exact (pd_var 0)
    exact (pd_var 1)
    refine pds_one ?_
    refine pds_ret ?_
    exact (pd_var 0))
theorem ft_w_divisor_2 (T : Txt P K mg base c) : FT P w K mg base 1 "_law_divisor" (padF 2 [] (F_w_divisor c)) := by
  obtain ⟨f, fd, hm, FD⟩ := T.fn_w_divisor
  exact ⟨f, fd, _, _, _, hm, FD.kp, ok_w_divisor T FD, (Bd.nil (FD.bindsN (fun _ _ _ _ _ _ us hl => match us, hl with | [_, _], _ => rfl))), rfl⟩
theorem ok_w_frac (T : Txt P K mg base c) {f : Addr} {fd : FuncData} (FD : FunD K "_law_frac" "_law_frac" (defArgs s_w_frac) (defBody s_w_frac) (defScope s_w_frac) [] [] f fd) : FnD P w K mg base 2 f fd ["_law_a", "_law_b"] (F_w_frac c) := fnD_of (N := ["_law_a", "_law_b", "_law_by"]) FD sc_w_frac (fun cdv A outer s H E hr => by
    refine pds_cons ?_ ?_
    refine pds_set (i := 2) ?_ sc_w_frac.nd
    refine pd_fun (ft_w_divisor_2 T) (hr.mono (by decide)) ?_
    refine pda_c ?_ ?_
    refine pd_bc oc_abs T.b_abs (by decide +kernel) ?_
    refine pda_c ?_ pda_nil
    exact (pd_var 0)
    refine pda_c ?_ pda_nil
    refine pd_bc oc_abs T.b_abs (by decide +kernel) ?_
    refine pda_c ?_ pda_nil
    exact (pd_var 1)
    refine pds_cons ?_ ?_
    refine pds_set (i := 2) ?_ sc_w_frac.nd
    refine pd_if ?_ ?_ ?_
    refine pdt_cmp od_gt ?_ pd_int
    exact (pd_var 1)
    exact (pd_var 2)
    refine pd_op od_sub pd_int ?_
    exact (pd_var 2)
    refine pds_one ?_
    refine pds_ret ?_
    refine pd_tup ?_
    refine pda_c ?_ ?_
    refine pd_op od_div ?_ ?_
    exact (pd_var 0)
    exact (pd_var 2)
    refine pda_c ?_ pda_nil
    refine pd_op od_div ?_ ?_
    exact (pd_var 1)
    exact (pd_var 2))
theorem ft_w_frac_2 (T : Txt P K mg base c) : FT P w K mg base 2 "_law_frac" (padF 2 [] (F_w_frac c)) := by
  obtain ⟨f, fd, hm, FD⟩ := T.fn_w_frac
  exact ⟨f, fd, _, _, _, hm, FD.kp, ok_w_frac T FD, (Bd.nil (FD.bindsN (fun _ _ _ _ _ _ us hl => match us, hl with | [_, _], _ => rfl))), rfl⟩
theorem ok_w_any_frac (T : Txt P K mg base c) {f : Addr} {fd : FuncData} (FD : FunD K "_law_any_frac" "_law_any_frac" (defArgs s_w_any_frac) (defBody s_w_any_frac) (defScope s_w_any_frac) [] [] f fd) : FnD P w K mg base 4 f fd ["_law_bag"] (F_w_any_frac c) := fnD_of (N := ["_law_bag", "_law_b", "_law_a"]) FD sc_w_any_frac (fun cdv A outer s H E hr => by
    refine pds_cons ?_ ?_
    refine pds_set (i := 1) ?_ sc_w_any_frac.nd
    refine pd_op od_add pd_int ?_
    refine pd_fun (ft_w_take_2 T) (hr.mono (by decide)) ?_
    refine pda_c ?_ ?_
    exact (pd_var 0)
    refine pda_c ?_ pda_nil
    refine pd_fun (ft_w_one_2 T) (hr.mono (by decide)) ?_
    refine pda_c ?_ ?_
    exact (pd_var 0)
    refine pda_c ?_ pda_nil
    refine pd_lst ?_
    refine pda_int ?_
    refine pda_int ?_
    refine pda_int ?_
    refine pda_int ?_
    refine pda_c ?_ pda_nil
    exact (pd_op od_pow pd_int pd_int)
    refine pds_cons ?_ ?_
    refine pds_set (i := 2) ?_ sc_w_any_frac.nd
    refine pd_fun (ft_w_take_2 T) (hr.mono (by decide)) ?_
    refine pda_c ?_ ?_
    exact (pd_var 0)
    refine pda_c ?_ pda_nil
    refine pd_fun (ft_w_one_2 T) (hr.mono (by decide)) ?_
    refine pda_c ?_ ?_
    exact (pd_var 0)
    refine pda_c ?_ pda_nil
    refine pd_lst ?_
    refine pda_int ?_
    refine pda_int ?_
    refine pda_c ?_ ?_
    refine pd_op od_add ?_ pd_int
    refine pd_op od_mul pd_int ?_
    exact (pd_var 1)
    refine pda_c ?_ pda_nil
    exact (pd_op od_pow pd_int pd_int)
    refine pds_one ?_
    refine pds_ret ?_
    refine pd_fun (ft_w_frac_2 T) (hr.mono (by decide)) ?_
    refine pda_c ?_ ?_
    refine pd_fun (ft_w_one_2 T) (hr.mono (by decide)) ?_
    refine pda_c ?_ ?_
    exact (pd_var 0)
    refine pda_c ?_ pda_nil
    refine pd_lst ?_
    refine pda_c ?_ ?_
    exact (pd_var 2)
    refine pda_c ?_ ?_
    exact (pd_var 2)
    refine pda_c ?_ pda_nil
    refine pd_op od_sub pd_int ?_
    exact (pd_var 2)
    refine pda_c ?_ pda_nil
    exact (pd_var 1))
theorem ft_w_any_frac_1 (T : Txt P K mg base c) : FT P w K mg base 4 "_law_any_frac" (padF 1 [] (F_w_any_frac c)) := by
  obtain ⟨f, fd, hm, FD⟩ := T.fn_w_any_frac
  exact ⟨f, fd, _, _, _, hm, FD.kp, ok_w_any_frac T FD, (Bd.nil (FD.bindsN (fun _ _ _ _ _ _ us hl => match us, hl with | [_], _ => rfl))), rfl⟩
theorem ok_w_word (T : Txt P K mg base c) {f : Addr} {fd : FuncData} (FD : FunD K "_law_word" "_law_word" (defArgs s_w_word) (defBody s_w_word) (defScope s_w_word) [] [] f fd) : FnD P w K mg base 3 f fd ["_law_a", "_law_b"] (F_w_word c) := fnD_of (N := ["_law_a", "_law_b", "_law_top", "_law_bottom"]) FD sc_w_word (fun cdv A outer s H E hr => by
    refine pds_cons ?_ ?_
    refine pds_asg ?_ (pdg_tup (n := 2) (by rfl) (pdgs_cons (pdg_name 2 sc_w_word.nd) (pdgs_cons (pdg_name 3 sc_w_word.nd) pdgs_nil)))
    refine pd_fun (ft_w_frac_2 T) (hr.mono (by decide)) ?_
    refine pda_c ?_ ?_
    exact (pd_var 0)
    refine pda_c ?_ pda_nil
    exact (pd_var 1)
    refine pds_one ?_
    refine pds_ret ?_
    refine pd_if ?_ ?_ ?_
    refine pdt_cmp (od_eq hr.units) ?_ pd_int
    exact (pd_var 3)
    refine pd_bt oc_strI T.b_str (by decide +kernel) ?_
    refine pda_c ?_ pda_nil
    exact (pd_var 2)
    refine pd_op od_addS ?_ ?_
    refine pd_op od_addS ?_ pd_str
    refine pd_bt oc_strI T.b_str (by decide +kernel) ?_
    refine pda_c ?_ pda_nil
    exact (pd_var 2)
    refine pd_bt oc_strI T.b_str (by decide +kernel) ?_
    refine pda_c ?_ pda_nil
    exact (pd_var 3))
theorem ft_w_word_2 (T : Txt P K mg base c) : FT P w K mg base 3 "_law_word" (padF 2 [] (F_w_word c)) := by
  obtain ⟨f, fd, hm, FD⟩ := T.fn_w_word
  exact ⟨f, fd, _, _, _, hm, FD.kp, ok_w_word T FD, (Bd.nil (FD.bindsN (fun _ _ _ _ _ _ us hl => match us, hl with | [_, _], _ => rfl))), rfl⟩
theorem ok_CycleErrorD_initD (T : Txt P K mg base c) {f cc : Addr} {fd : FuncData} (FD : FunS P K "__init__" "CycleError.__init__" (defArgs s_CycleErrorD_initD) (defBody s_CycleErrorD_initD) (defScope s_CycleErrorD_initD) [] f fd c.cCycleError cc) : FnD P w K mg base 1 f fd ["self", "code"] (F_CycleErrorD_initD c) := fnS_of (N := ["self", "code"]) FD sc_CycleErrorD_initD (fun cdv A outer s H E hcd hr => ⟨pdsat_supB (supCx_of FD hcd T.sup.1 T.sup.2.1 T.sup.2.2 rfl rfl rfl rfl ⟨_, rfl, rfl⟩) (by intro C hC; simp only [List.mem_cons, List.not_mem_nil, or_false] at hC; subst hC; exact T.sb_InvalidRatio_CycleError) (by
    refine pda_c ?_ pda_nil
    exact (pd_var 1)), by
    refine pds_one ?_
    refine pds_putX ?_ ?_ (by intro C hC; simp only [List.mem_cons, List.not_mem_nil, or_false] at hC; subst hC; exact ⟨T.ox_InvalidRatio, T.nx_InvalidRatio_code⟩)
    exact (pd_var 1)
    exact (pd_var 0)⟩)
theorem sm_CycleErrorD_initD_2_InvalidRatio (T : Txt P K mg base c) : SupM P w K mg base 1 c.cInvalidRatio [c.cInvalidRatio] "__init__" (padF 2 [] (F_CycleErrorD_initD c)) := by
  obtain ⟨f, fd, cc, h0, hf, h8, h9, u0, FD⟩ := T.me_CycleErrorD_initD
  exact ⟨f, fd, _, _, _, (by intro C hC; simp only [List.mem_cons, List.not_mem_nil, or_false] at hC; subst hC; exact u0), h8, h9, ok_CycleErrorD_initD T FD, (Bd.nil (by obtain ⟨oc, od, dV, kV, doc, pm, an, cda, ct, osl, e, _, _, hD, _⟩ := FD.ex; subst e; obtain rfl := dfl_nil hD; exact Binds.all (fun us hl => match us, hl with | [_, _], _ => rfl))), rfl⟩
theorem ok_InvalidRatioD_initD (T : Txt P K mg base c) {f cc : Addr} {fd : FuncData} (FD : FunS P K "__init__" "InvalidRatio.__init__" (defArgs s_InvalidRatioD_initD) (defBody s_InvalidRatioD_initD) (defScope s_InvalidRatioD_initD) [] f fd c.cInvalidRatio cc) : FnD P w K mg base 2 f fd ["self", "given"] (F_InvalidRatioD_initD c) := fnS_of (N := ["self", "given"]) FD sc_InvalidRatioD_initD (fun cdv A outer s H E hcd hr => ⟨pdsat_sup (k := 1) (supCx_of FD hcd T.sup.1 T.sup.2.1 T.sup.2.2 rfl rfl rfl rfl ⟨_, rfl, rfl⟩) (sm_CycleErrorD_initD_2_InvalidRatio T) (hr.mono (by decide)) (by
    exact (pda_str pda_nil)), by
    refine pds_one ?_
    refine pds_putX ?_ ?_ (by intro C hC; simp only [List.mem_cons, List.not_mem_nil, or_false] at hC; subst hC; exact ⟨T.ox_InvalidRatio, T.nx_InvalidRatio_given⟩)
    exact (pd_var 1)
    exact (pd_var 0)⟩)
theorem xt_InvalidRatio_1 (T : Txt P K mg base c) : XT P w K mg base 2 "InvalidRatio" c.cInvalidRatio (padF 2 [] (F_InvalidRatioD_initD c)) := by
  obtain ⟨f, fd, cc, h0, hf, h8, h9, FD⟩ := T.me_InvalidRatioD_initD
  exact ⟨T.gc_InvalidRatio, T.ox_InvalidRatio, f, fd, _, _, _, h0, h8, ok_InvalidRatioD_initD T FD, (Bd.nil (by obtain ⟨oc, od, dV, kV, doc, pm, an, cda, ct, osl, e, _, _, hD, _⟩ := FD.ex; subst e; obtain rfl := dfl_nil hD; exact Binds.all (fun us hl => match us, hl with | [_, _], _ => rfl))), rfl⟩
theorem ok_whole_in (T : Txt P K mg base c) {f : Addr} {fd : FuncData} (FD : FunD K "whole_in" "whole_in" (defArgs s_whole_in) (defBody s_whole_in) (defScope s_whole_in) [] [] f fd) : FnD P w K mg base 2 f fd ["word"] (F_whole_in c) := fnD_of (N := ["word", "digits", "sign", "found"]) FD sc_whole_in (fun cdv A outer s H E hr => by
    refine pds_cons ?_ ?_
    refine pds_set (i := 1) ?_ sc_whole_in.nd
    refine pd_if ?_ ?_ ?_
    refine pdt_cmp (od_eq hr.units) ?_ pd_str
    refine pd_slStr ?_ pdo_none ?_
    exact (pd_var 0)
    exact (pdo_some pd_int)
    refine pd_slStr ?_ ?_ pdo_none
    exact (pd_var 0)
    exact (pdo_some pd_int)
    exact (pd_var 0)
    refine pds_cons ?_ ?_
    refine pds_if ?_ ?_ pds_nil
    refine PDW.pt ?_
    refine pdw_or ?_ ?_
    refine pdt_cmp (od_eq hr.units) ?_ pd_str
    exact (pd_var 1)
    refine pdw_or1 ?_
    refine pdt_not ?_
    refine pdt_val ?_
    refine pd_bc (oc_all (by rfl)) T.b_all (by decide +kernel) ?_
    refine pda_c ?_ pda_nil
    refine pd_lc ?_ sc_whole_in.nd (blkOk_by (own := [("sign", 2)]) (by rfl)) (fun _ _ _ _ _ => (pdg_name 2 sc_whole_in.nd)) ?_ ?_ (by rfl)
    refine pdi_str ?_
    exact (pd_var 1)
    intro _ _ _ _ _
    exact (pdts_nil)
    intro _ _ _ _ _
    refine pd_cmp od_in ?_ (let ⟨t, h⟩ := T.g_FIGURES; pd_glob (RepA.str _) h ⟨t, rfl⟩) (by rfl)
    exact (pd_var 2)
    refine pds_one ?_
    exact (pds_ret pd_non)
    refine pds_cons ?_ ?_
    refine pds_set (i := 3) ?_ sc_whole_in.nd
    refine pd_bt oc_intS T.b_int (by decide +kernel) ?_
    refine pda_c ?_ pda_nil
    exact (pd_var 0)
    refine pds_one ?_
    refine pds_ret ?_
    refine pd_if ?_ ?_ pd_non
    refine pdt_cmp (od_eq hr.units) ?_ ?_
    refine pd_bt oc_strI T.b_str (by decide +kernel) ?_
    refine pda_c ?_ pda_nil
    exact (pd_var 3)
    exact (pd_var 0)
    exact (pd_var 3))
theorem ft_whole_in_1 (T : Txt P K mg base c) : FT P w K mg base 2 "whole_in" (padF 1 [] (F_whole_in c)) := by
  obtain ⟨f, fd, hm, FD⟩ := T.fn_whole_in
  exact ⟨f, fd, _, _, _, hm, FD.kp, ok_whole_in T FD, (Bd.nil (FD.bindsN (fun _ _ _ _ _ _ us hl => match us, hl with | [_], _ => rfl))), rfl⟩
theorem ok_is_whole (T : Txt P K mg base c) {f : Addr} {fd : FuncData} (FD : FunD K "is_whole" "is_whole" (defArgs s_is_whole) (defBody s_is_whole) (defScope s_is_whole) [] [] f fd) : FnD P w K mg base 1 f fd ["value"] (F_is_whole c) := fnD_of (N := ["value"]) FD sc_is_whole (fun cdv A outer s H E hr => by
    refine pds_one ?_
    refine pds_ret ?_
    refine pd_and ?_ ?_
    refine pd_isi ?_ (ClsV.ty _) (pd_bltn (v := .ty "int") (u := .type "int") T.b_int (by decide +kernel) rfl) T.ans_int T.b_isinstance
    exact (pd_var 0)
    refine pd_one ?_
    refine pd_not ?_
    refine pd_isi ?_ (ClsV.ty _) (pd_bltn (v := .ty "bool") (u := .type "bool") T.b_bool (by decide +kernel) rfl) T.ans_bool T.b_isinstance
    exact (pd_var 0))
theorem ft_is_whole_1 (T : Txt P K mg base c) : FT P w K mg base 1 "is_whole" (padF 1 [] (F_is_whole c)) := by
  obtain ⟨f, fd, hm, FD⟩ := T.fn_is_whole
  exact ⟨f, fd, _, _, _, hm, FD.kp, ok_is_whole T FD, (Bd.nil (FD.bindsN (fun _ _ _ _ _ _ us hl => match us, hl with | [_], _ => rfl))), rfl⟩
theorem ok_common_divisor (T : Txt P K mg base c) {f : Addr} {fd : FuncData} (FD : FunD K "common_divisor" "common_divisor" (defArgs s_common_divisor) (defBody s_common_divisor) (defScope s_common_divisor) [] [] f fd) : FnD P w K mg base 2 f fd ["one", "other"] (F_common_divisor c) := fnD_of (N := ["one", "other"]) FD sc_common_divisor (fun cdv A outer s H E hr => by
    refine pds_cons ?_ ?_
    refine pds_while ?_ ?_ (passes_of rfl)
    refine pdt_cmp (od_ne hr.units) ?_ pd_int
    exact (pd_var 1)
    refine pds_one ?_
    refine pds_par (i := 0) (j := 1) ?_ (by rfl) sc_common_divisor.nd
    refine pda_c ?_ ?_
    exact (pd_var 1)
    refine pda_c ?_ pda_nil
    refine pd_op od_mod ?_ ?_
    exact (pd_var 0)
    exact (pd_var 1)
    refine pds_one ?_
    refine pds_ret ?_
    exact (pd_var 0))
theorem ft_common_divisor_2 (T : Txt P K mg base c) : FT P w K mg base 2 "common_divisor" (padF 2 [] (F_common_divisor c)) := by
  obtain ⟨f, fd, hm, FD⟩ := T.fn_common_divisor
  exact ⟨f, fd, _, _, _, hm, FD.kp, ok_common_divisor T FD, (Bd.nil (FD.bindsN (fun _ _ _ _ _ _ us hl => match us, hl with | [_, _], _ => rfl))), rfl⟩
theorem ok_RatioD_initD (T : Txt P K mg base c) {f : Addr} {fd : FuncData} (FD : FunD K "__init__" "Ratio.__init__" (defArgs s_RatioD_initD) (defBody s_RatioD_initD) (defScope s_RatioD_initD) [.int 1] [] f fd) : FnD P w K mg base 4 f fd ["self", "top", "bottom"] (F_RatioD_initD c) := fnD_of (N := ["self", "top", "bottom", "divisor"]) FD sc_RatioD_initD (fun cdv A outer s H E hr => by
    refine pds_cons ?_ ?_
    refine pds_if ?_ ?_ pds_nil
    refine PDW.pt ?_
    refine pdw_or ?_ ?_
    refine pdt_not ?_
    refine pdt_val ?_
    refine pd_fun (ft_is_whole_1 T) (hr.mono (by decide)) ?_
    refine pda_c ?_ pda_nil
    exact (pd_var 1)
    refine pdw_or ?_ ?_
    refine pdt_not ?_
    refine pdt_val ?_
    refine pd_fun (ft_is_whole_1 T) (hr.mono (by decide)) ?_
    refine pda_c ?_ pda_nil
    exact (pd_var 2)
    refine pdw_or1 ?_
    refine pdt_cmp (od_eq hr.units) ?_ pd_int
    exact (pd_var 2)
    refine pds_one ?_
    refine pds_raise (k := 2) (xt_InvalidRatio_1 T) (hr.mono (by decide)) rfl ?_
    refine pda_c ?_ pda_nil
    refine pd_tup ?_
    refine pda_c ?_ ?_
    exact (pd_var 1)
    refine pda_c ?_ pda_nil
    exact (pd_var 2)
    refine pds_cons ?_ ?_
    refine pds_set (i := 3) ?_ sc_RatioD_initD.nd
    refine pd_fun (ft_common_divisor_2 T) (hr.mono (by decide)) ?_
    refine pda_c ?_ ?_
    refine pd_bc oc_abs T.b_abs (by decide +kernel) ?_
    refine pda_c ?_ pda_nil
    exact (pd_var 1)
    refine pda_c ?_ pda_nil
    refine pd_bc oc_abs T.b_abs (by decide +kernel) ?_
    refine pda_c ?_ pda_nil
    exact (pd_var 2)
    refine pds_cons ?_ ?_
    refine pds_set (i := 3) ?_ sc_RatioD_initD.nd
    refine pd_if ?_ ?_ ?_
    refine pdt_cmp od_lt ?_ pd_int
    exact (pd_var 2)
    refine pd_negI ?_
    exact (pd_var 3)
    exact (pd_var 3)
    refine pds_cons ?_ ?_
    refine pds_putF ?_ ?_ (by intro C hC; simp only [List.mem_cons, List.not_mem_nil, or_false] at hC; subst hC; exact ⟨T.cl_Ratio, T.fl_Ratio_own_top.no⟩)
    refine pd_op od_div ?_ ?_
    exact (pd_var 1)
    exact (pd_var 3)
    exact (pd_var 0)
    refine pds_one ?_
    refine pds_putF ?_ ?_ (by intro C hC; simp only [List.mem_cons, List.not_mem_nil, or_false] at hC; subst hC; exact ⟨T.cl_Ratio, T.fl_Ratio_own_bottom.no⟩)
    refine pd_op od_div ?_ ?_
    exact (pd_var 2)
    exact (pd_var 3)
    exact (pd_var 0))
theorem kt_Ratio_2 (T : Txt P K mg base c) : KT P w K mg base 4 "Ratio" c.cRatio (padF 3 [] (F_RatioD_initD c)) := by
  obtain ⟨f, fd, h0, hf, FD⟩ := T.me_RatioD_initD
  exact ⟨T.gc_Ratio, f, fd, _, _, _, ⟨T.mk_Ratio.1, h0, hf, T.mk_Ratio.2⟩, ok_RatioD_initD T FD, (bd_of (FD.binds1 3 1 (by simp) rfl (fun _ _ _ _ _ _ _ us its l1 l2 => match us, its, l1, l2 with | [_, _, _], [_], _, _ => ⟨_, rfl, rfl⟩)) (fun _ _ => .nil)), rfl⟩
theorem ok_RatioD_strD (T : Txt P K mg base c) {f : Addr} {fd : FuncData} (FD : FunD K "__str__" "Ratio.__str__" (defArgs s_RatioD_strD) (defBody s_RatioD_strD) (defScope s_RatioD_strD) [] [] f fd) : FnD P w K mg base 2 f fd ["self"] (F_RatioD_strD c) := fnD_of (N := ["self"]) FD sc_RatioD_strD (fun cdv A outer s H E hr => by
    refine pds_cons ?_ ?_
    refine pds_if ?_ ?_ pds_nil
    refine pdt_cmp (od_eq hr.units) ?_ pd_int
    refine pd_fld ?_ (by intro r hr; simp only [List.mem_cons, List.not_mem_nil, or_false] at hr; subst hr; exact T.fl_Ratio_own_bottom)
    exact (pd_var 0)
    refine pds_one ?_
    refine pds_ret ?_
    refine pd_joined1 ?_
    refine pd_fmt (k := 0) ?_ (by intro r hr; exact nomatch hr) (hr.mono (by decide))
    refine pd_fld ?_ (by intro r hr; simp only [List.mem_cons, List.not_mem_nil, or_false] at hr; subst hr; exact T.fl_Ratio_own_top)
    exact (pd_var 0)
    refine pds_one ?_
    refine pds_ret ?_
    exact (pd_joined (.cons (pd_fmt (k := 0) (pd_fld (pd_var 0) (by intro r hr; simp only [List.mem_cons, List.not_mem_nil, or_false] at hr; subst hr; exact T.fl_Ratio_own_top)) (by intro r hr; exact nomatch hr) (hr.mono (by decide))) (.cons pd_str (.cons (pd_fmt (k := 0) (pd_fld (pd_var 0) (by intro r hr; simp only [List.mem_cons, List.not_mem_nil, or_false] at hr; subst hr; exact T.fl_Ratio_own_bottom)) (by intro r hr; exact nomatch hr) (hr.mono (by decide))) .nil)))))
theorem mt_Ratio_RatioD_strD_1 (T : Txt P K mg base c) : MT P w K mg base 2 "__str__" c.cRatio (padF 1 [] (F_RatioD_strD c)) := by
  obtain ⟨f, fd, h0, hf, FD⟩ := T.me_RatioD_strD
  exact ⟨f, fd, _, _, _, h0, hf, FD.kp, ok_RatioD_strD T FD, (Bd.nil (FD.bindsN (fun _ _ _ _ _ _ us hl => match us, hl with | [_], _ => rfl))), rfl⟩
theorem mo_Ratio_RatioD_strD_1 (T : Txt P K mg base c) {k : Nat} (hk : 2 ≤ k) : MethOk P w K mg base k "__str__" c.kRatio (padF 1 [] (F_RatioD_strD c)) := ⟨T.cl_Ratio, (mt_Ratio_RatioD_strD_1 T).mono hk, (show ("__str__" : Str) ∉ nsRatio from by decide +kernel)⟩
theorem ok_Ratio_read (T : Txt P K mg base c) {f : Addr} {fd : FuncData} (FD : FunD K "read" "Ratio.read" (defArgs s_Ratio_read) (defBody s_Ratio_read) (defScope s_Ratio_read) [] [] f fd) : FnD P w K mg base 6 f fd ["cls", "text"] (F_Ratio_read c) := fnD_of (N := ["cls", "text", "front", "sign", "behind", "top", "bottom", "found"]) FD sc_Ratio_read (fun cdv A outer s H E hr => by
    refine pds_cons ?_ ?_
    refine pds_if ?_ ?_ pds_nil
    refine PDW.pt ?_
    refine pdw_or ?_ ?_
    refine pdt_not ?_
    refine pdt_val ?_
    refine pd_isi ?_ (ClsV.ty _) (pd_bltn (v := .ty "str") (u := .type "str") T.b_str (by decide +kernel) rfl) T.ans_str T.b_isinstance
    exact (pd_var 1)
    refine pdw_or1 ?_
    refine pdt_cmp od_gt ?_ (let ⟨t, h⟩ := T.g_LONGEST_TEXT; pd_glob (RepA.int _) h ⟨t, rfl⟩)
    refine pd_bc oc_len T.b_len (by decide +kernel) ?_
    refine pda_c ?_ pda_nil
    exact (pd_var 1)
    refine pds_one ?_
    refine pds_raise (k := 2) (xt_InvalidRatio_1 T) (hr.mono (by decide)) rfl ?_
    refine pda_c ?_ pda_nil
    exact (pd_var 1)
    refine pds_cons ?_ ?_
    refine pds_asg ?_ (pdg_tup (n := 3) (by rfl) (pdgs_cons (pdg_name 2 sc_Ratio_read.nd) (pdgs_cons (pdg_name 3 sc_Ratio_read.nd) (pdgs_cons (pdg_name 4 sc_Ratio_read.nd) pdgs_nil))))
    refine pd_partition ?_ pd_str
    exact (pd_var 1)
    refine pds_cons ?_ ?_
    refine pds_par (i := 5) (j := 6) ?_ (by rfl) sc_Ratio_read.nd
    refine pda_c ?_ ?_
    refine pd_fun (ft_whole_in_1 T) (hr.mono (by decide)) ?_
    refine pda_c ?_ pda_nil
    exact (pd_var 2)
    refine pda_c ?_ pda_nil
    refine pd_if ?_ ?_ pd_int
    refine pdt_cmp (od_eq hr.units) ?_ pd_str
    exact (pd_var 3)
    refine pd_fun (ft_whole_in_1 T) (hr.mono (by decide)) ?_
    refine pda_c ?_ pda_nil
    exact (pd_var 4)
    refine pds_cons ?_ ?_
    refine pds_if ?_ ?_ pds_nil
    refine PDW.pt ?_
    refine pdw_or ?_ ?_
    refine pdt_cmp od_isN ?_ pd_non
    exact (pd_var 5)
    refine pdw_or ?_ ?_
    refine pdt_cmp od_isN ?_ pd_non
    exact (pd_var 6)
    refine pdw_or1 ?_
    refine pdt_cmp (od_eq hr.units) ?_ pd_int
    exact (pd_var 6)
    refine pds_one ?_
    refine pds_raise (k := 2) (xt_InvalidRatio_1 T) (hr.mono (by decide)) rfl ?_
    refine pda_c ?_ pda_nil
    exact (pd_var 1)
    refine pds_cons ?_ ?_
    refine pds_set (i := 7) ?_ sc_Ratio_read.nd
    refine pd_makeV (i := 0) (k := 4) (kt_Ratio_2 T) (hr.mono (by decide)) ?_
    refine pda_c ?_ ?_
    exact (pd_var 5)
    refine pda_c ?_ pda_nil
    exact (pd_var 6)
    refine pds_cons ?_ ?_
    refine pds_if ?_ ?_ pds_nil
    refine pdt_cmp (od_ne hr.units) ?_ ?_
    refine pd_bt (oc_strO (k := 2) (by intro r hr; simp only [List.mem_cons, List.not_mem_nil, or_false] at hr; subst hr; exact (((mt_Ratio_RatioD_strD_1 T)).mono (by decide))) (hr.mono (by decide))) T.b_str (by decide +kernel) ?_
    refine pda_c ?_ pda_nil
    exact (pd_var 7)
    exact (pd_var 1)
    refine pds_one ?_
    refine pds_raise (k := 2) (xt_InvalidRatio_1 T) (hr.mono (by decide)) rfl ?_
    refine pda_c ?_ pda_nil
    exact (pd_var 1)
    refine pds_one ?_
    refine pds_ret ?_
    exact (pd_var 7))
theorem cmk_Ratio_Ratio_read_text (T : Txt P K mg base c) : CMtK P w K mg base 6 "Ratio" "read" ["text"] (GC_Ratio_Ratio_read_text c) := by
  obtain ⟨pp, f, fd, h1, h2, h3, h4, h5, FD⟩ := T.cm_Ratio_read
  have hok := ok_Ratio_read (P := P) (w := w) (base := base) T FD
  obtain ⟨oc, od, dV, kV, doc, pm, an, cdv, ct, osl, rfl, lk, hcd, hD, hK⟩ := FD.ex
  obtain rfl := dfl_nil hD
  exact ⟨c.cRatio, pp, f, _, _, [0, 1], [], _, T.gc_Ratio, ⟨h1, h2⟩, ⟨h3, h4, h5⟩, hok, ⟨[], [], .nil, fun _ _ => .nil, fun s us ws _ l1 l2 => match us, ws, l1, l2 with | [_], [_], _, _ => ⟨.of_eq rfl, rfl⟩⟩, rfl⟩
theorem cm_Ratio_Ratio_read_1 (T : Txt P K mg base c) : CMt P w K mg base 6 "Ratio" "read" (fun ds => (padF 2 [] (F_Ratio_read c)) (.val (.ref c.cRatio) :: ds)) := by
  obtain ⟨pp, f, fd, h1, h2, h3, h4, h5, FD⟩ := T.cm_Ratio_read
  exact ⟨c.cRatio, pp, f, _, T.gc_Ratio, ⟨h1, h2⟩, ⟨h3, h4, h5⟩, (ok_Ratio_read T FD).star (Bd.nil (FD.bindsN (fun _ _ _ _ _ _ us hl => match us, hl with | [_, _], _ => rfl))), rfl⟩
theorem ok_Ratio_bottom (T : Txt P K mg base c) {f : Addr} {fd : FuncData} (FD : FunD K "bottom" "Ratio.bottom" (defArgs s_Ratio_bottom) (defBody s_Ratio_bottom) (defScope s_Ratio_bottom) [] [] f fd) : FnD P w K mg base 1 f fd ["self"] (F_Ratio_bottom c) := fnD_of (N := ["self"]) FD sc_Ratio_bottom (fun cdv A outer s H E hr => by
    refine pds_one ?_
    refine pds_ret ?_
    refine pd_fld ?_ (by intro r hr; simp only [List.mem_cons, List.not_mem_nil, or_false] at hr; subst hr; exact T.fl_Ratio_own_bottom)
    exact (pd_var 0))
theorem po_Ratio_Ratio_bottom (T : Txt P K mg base c) {k : Nat} (hk : 1 ≤ k) : PropOk P w K mg base k "bottom" c.kRatio (padF 1 [] (F_Ratio_bottom c)) := by
  obtain ⟨pp, g, fd, h0, FD⟩ := T.pr_Ratio_bottom
  exact ⟨T.cl_Ratio, pp, g, fd, _, _, h0, (ok_Ratio_bottom T FD).mono hk, (Bd.nil (FD.bindsN (fun _ _ _ _ _ _ us hl => match us, hl with | [_], _ => rfl))), rfl⟩
theorem ok_Ratio_top (T : Txt P K mg base c) {f : Addr} {fd : FuncData} (FD : FunD K "top" "Ratio.top" (defArgs s_Ratio_top) (defBody s_Ratio_top) (defScope s_Ratio_top) [] [] f fd) : FnD P w K mg base 1 f fd ["self"] (F_Ratio_top c) := fnD_of (N := ["self"]) FD sc_Ratio_top (fun cdv A outer s H E hr => by
    refine pds_one ?_
    refine pds_ret ?_
    refine pd_fld ?_ (by intro r hr; simp only [List.mem_cons, List.not_mem_nil, or_false] at hr; subst hr; exact T.fl_Ratio_own_top)
    exact (pd_var 0))
theorem po_Ratio_Ratio_top (T : Txt P K mg base c) {k : Nat} (hk : 1 ≤ k) : PropOk P w K mg base k "top" c.kRatio (padF 1 [] (F_Ratio_top c)) := by
  obtain ⟨pp, g, fd, h0, FD⟩ := T.pr_Ratio_top
  exact ⟨T.cl_Ratio, pp, g, fd, _, _, h0, (ok_Ratio_top T FD).mono hk, (Bd.nil (FD.bindsN (fun _ _ _ _ _ _ us hl => match us, hl with | [_], _ => rfl))), rfl⟩
theorem ok_w_parts (T : Txt P K mg base c) {f : Addr} {fd : FuncData} (FD : FunD K "_law_parts" "_law_parts" (defArgs s_w_parts) (defBody s_w_parts) (defScope s_w_parts) [] [] f fd) : FnD P w K mg base 3 f fd ["_law_found"] (F_w_parts c) := fnD_of (N := ["_law_found"]) FD sc_w_parts (fun cdv A outer s H E hr => by
    refine pds_one ?_
    refine pds_ret ?_
    refine pd_if ?_ ?_ pd_non
    refine pdt_val ?_
    refine pd_isi ?_ (ClsV.own _) (pd_glob (RepA.val _) T.gc_Ratio rfl) T.ans_Ratio__Ratio T.b_isinstance
    exact (pd_var 0)
    refine pd_tup ?_
    refine pda_c ?_ ?_
    refine pd_prop (k := 1) ?_ (by intro r hr; simp only [List.mem_cons, List.not_mem_nil, or_false] at hr; subst hr; exact (po_Ratio_Ratio_top T (by decide))) (hr.mono (by decide))
    exact (pd_var 0)
    refine pda_c ?_ pda_nil
    refine pd_prop (k := 1) ?_ (by intro r hr; simp only [List.mem_cons, List.not_mem_nil, or_false] at hr; subst hr; exact (po_Ratio_Ratio_bottom T (by decide))) (hr.mono (by decide))
    exact (pd_var 0))
theorem ft_w_parts_1 (T : Txt P K mg base c) : FT P w K mg base 3 "_law_parts" (padF 1 [] (F_w_parts c)) := by
  obtain ⟨f, fd, hm, FD⟩ := T.fn_w_parts
  exact ⟨f, fd, _, _, _, hm, FD.kp, ok_w_parts T FD, (Bd.nil (FD.bindsN (fun _ _ _ _ _ _ us hl => match us, hl with | [_], _ => rfl))), rfl⟩
theorem ok_RatioD_eqD (T : Txt P K mg base c) {f : Addr} {fd : FuncData} (FD : FunD K "__eq__" "Ratio.__eq__" (defArgs s_RatioD_eqD) (defBody s_RatioD_eqD) (defScope s_RatioD_eqD) [] [] f fd) : FnD P w K mg base 2 f fd ["self", "other"] (F_RatioD_eqD c) := fnD_of (N := ["self", "other"]) FD sc_RatioD_eqD (fun cdv A outer s H E hr => by
    refine pds_one ?_
    refine pds_ret ?_
    refine pd_and ?_ ?_
    refine pd_isi ?_ (ClsV.own _) (pd_glob (RepA.val _) T.gc_Ratio rfl) T.ans_Ratio T.b_isinstance
    exact (pd_var 1)
    refine pd_and ?_ ?_
    refine pd_cmp (od_eq hr.units) ?_ pd_stuckE
    refine pd_fld ?_ (by intro r hr; simp only [List.mem_cons, List.not_mem_nil, or_false] at hr; subst hr; exact T.fl_Ratio_own_top)
    exact (pd_var 0)
    refine pd_one ?_
    refine pd_cmp (od_eq hr.units) ?_ pd_stuckE
    refine pd_fld ?_ (by intro r hr; simp only [List.mem_cons, List.not_mem_nil, or_false] at hr; subst hr; exact T.fl_Ratio_own_bottom)
    exact (pd_var 0))
theorem mt_Ratio_RatioD_eqD_2 (T : Txt P K mg base c) : MT P w K mg base 2 "__eq__" c.cRatio (padF 2 [] (F_RatioD_eqD c)) := by
  obtain ⟨f, fd, h0, hf, FD⟩ := T.me_RatioD_eqD
  exact ⟨f, fd, _, _, _, h0, hf, FD.kp, ok_RatioD_eqD T FD, (Bd.nil (FD.bindsN (fun _ _ _ _ _ _ us hl => match us, hl with | [_, _], _ => rfl))), rfl⟩
theorem eqo_0 (T : Txt P K mg base c) {k : Nat} (hk : 2 ≤ k) : EqOk P w K mg base k (c.kRatio, padF 2 [] (F_RatioD_eqD c), [(.prim "NoneType"), (.prim "bool"), (.prim "int"), (.prim "list"), (.prim "str"), (.prim "tuple")]) := ⟨(mt_Ratio_RatioD_eqD_2 T).mono hk, by
  intro t ht; simp only [List.mem_cons, List.not_mem_nil, or_false] at ht; rcases ht with rfl | rfl | rfl | rfl | rfl | rfl <;> first | exact T.nf_Ratio_primNoneType | exact T.nf_Ratio_primbool | exact T.nf_Ratio_primint | exact T.nf_Ratio_primlist | exact T.nf_Ratio_primstr | exact T.nf_Ratio_primtuple⟩
theorem mo_Ratio_RatioD_eqD_2 (T : Txt P K mg base c) {k : Nat} (hk : 2 ≤ k) : MethOk P w K mg base k "__eq__" c.kRatio (padF 2 [] (F_RatioD_eqD c)) := ⟨T.cl_Ratio, (mt_Ratio_RatioD_eqD_2 T).mono hk, (show ("__eq__" : Str) ∉ nsRatio from by decide +kernel)⟩
theorem ft_w_like_2 (T : Txt P K mg base c) : ∀ n : Nat, FT P w K mg base (n + 8) "_law_like" (padF 2 [] (F_w_like c n))
  | 0 => by
    obtain ⟨f, fd, hm, FD⟩ := T.fn_w_like
    exact ⟨f, fd, ["_law_found", "_law_due"], [], F_w_like c 0, hm, FD.kp, FnOk.mono (fnD_none FD sc_w_like) (by omega), (Bd.nil (FD.bindsN (fun _ _ _ _ _ _ us hl => match us, hl with | [_, _], _ => rfl))), rfl⟩
  | n + 1 => by
    have ih := ft_w_like_2 T n
    obtain ⟨f, fd, hm, FD⟩ := T.fn_w_like
    exact ⟨f, fd, ["_law_found", "_law_due"], [], F_w_like c (n + 1), hm, FD.kp, fnD_of (k := n + 8) FD sc_w_like (fun cdv A outer s H E hr => by
      refine pds_cons ?_ ?_
      refine pds_if ?_ ?_ pds_nil
      refine PDW.pt ?_
      refine pdw_or ?_ ?_
      refine pdt_cmp od_isN ?_ pd_non
      exact (pd_var 1)
      refine pdw_or1 ?_
      refine pdt_cmp od_isN ?_ pd_non
      exact (pd_var 0)
      refine pds_one ?_
      refine pds_ret ?_
      refine pd_and ?_ ?_
      refine pd_cmp od_isN ?_ pd_non
      exact (pd_var 1)
      refine pd_one ?_
      refine pd_cmp od_isN ?_ pd_non
      exact (pd_var 0)
      refine pds_cons ?_ ?_
      refine pds_if ?_ ?_ pds_nil
      refine pdt_val ?_
      refine pd_isiT ?_ (.cons (ClsV.ty _) (.cons (ClsV.ty _) .nil)) (pda_c (pd_bltn (v := .ty "list") (u := .type "list") T.b_list (by decide +kernel) rfl) (pda_c (pd_bltn (v := .ty "tuple") (u := .type "tuple") T.b_tuple (by decide +kernel) rfl) pda_nil)) (by decide) T.ans_list_tuple T.b_isinstance
      exact (pd_var 1)
      refine pds_cons ?_ ?_
      refine pds_if ?_ ?_ pds_nil
      refine PDW.pt ?_
      refine pdw_or ?_ ?_
      refine pdt_cmp (od_ne hr.units) ?_ ?_
      refine pd_isi ?_ (ClsV.ty _) (pd_bltn (v := .ty "list") (u := .type "list") T.b_list (by decide +kernel) rfl) T.ans_list__Ratio T.b_isinstance
      exact (pd_var 0)
      refine pd_isi ?_ (ClsV.ty _) (pd_bltn (v := .ty "list") (u := .type "list") T.b_list (by decide +kernel) rfl) T.ans_list T.b_isinstance
      exact (pd_var 1)
      refine pdw_or1 ?_
      refine pdt_cmp (od_ne hr.units) ?_ ?_
      refine pd_isi ?_ (ClsV.ty _) (pd_bltn (v := .ty "tuple") (u := .type "tuple") T.b_tuple (by decide +kernel) rfl) T.ans_tuple__Ratio T.b_isinstance
      exact (pd_var 0)
      refine pd_isi ?_ (ClsV.ty _) (pd_bltn (v := .ty "tuple") (u := .type "tuple") T.b_tuple (by decide +kernel) rfl) T.ans_tuple T.b_isinstance
      exact (pd_var 1)
      refine pds_one ?_
      exact (pds_ret pd_bl)
      refine pds_one ?_
      refine pds_ret ?_
      refine pd_and ?_ ?_
      refine pd_cmp (od_eq hr.units) ?_ ?_
      refine pd_bc oc_len T.b_len (by decide +kernel) ?_
      refine pda_c ?_ pda_nil
      exact (pd_var 0)
      refine pd_bc oc_len T.b_len (by decide +kernel) ?_
      refine pda_c ?_ pda_nil
      exact (pd_var 1)
      refine pd_one ?_
      refine pd_bc (oc_all (by rfl)) T.b_all (by decide +kernel) ?_
      refine pda_c ?_ pda_nil
      refine pd_lc ?_ sc_w_like.nd (blkOk_by (own := [("_law_one_here", 2), ("_law_two", 3)]) (by rfl)) (fun _ _ _ _ _ => (pdg_tup (n := 2) (by rfl) (pdgs_cons (pdg_name 2 sc_w_like.nd) (pdgs_cons (pdg_name 3 sc_w_like.nd) pdgs_nil)))) ?_ ?_ (by rfl)
      refine pdi_zip T.b_zip ?_
      refine pda_c ?_ ?_
      exact (pd_var 0)
      refine pda_c ?_ pda_nil
      exact (pd_var 1)
      intro _ _ _ _ _
      exact (pdts_nil)
      intro _ _ _ _ _
      refine pd_fun (ih) (hr.mono (by omega)) ?_
      refine pda_c ?_ ?_
      exact (pd_var 2)
      refine pda_c ?_ pda_nil
      exact (pd_var 3)
      refine pds_cons ?_ ?_
      refine pds_if ?_ ?_ pds_nil
      refine PDW.pt ?_
      refine pdw_or ?_ ?_
      refine pdt_cmp (od_ne hr.units) ?_ ?_
      refine pd_isi ?_ (ClsV.ty _) (pd_bltn (v := .ty "bool") (u := .type "bool") T.b_bool (by decide +kernel) rfl) T.ans_bool__Ratio T.b_isinstance
      exact (pd_var 0)
      refine pd_isi ?_ (ClsV.ty _) (pd_bltn (v := .ty "bool") (u := .type "bool") T.b_bool (by decide +kernel) rfl) T.ans_bool T.b_isinstance
      exact (pd_var 1)
      refine pdw_or1 ?_
      refine pdt_cmp (od_ne hr.units) ?_ ?_
      refine pd_isi ?_ (ClsV.ty _) (pd_bltn (v := .ty "int") (u := .type "int") T.b_int (by decide +kernel) rfl) T.ans_int__Ratio T.b_isinstance
      exact (pd_var 0)
      refine pd_isi ?_ (ClsV.ty _) (pd_bltn (v := .ty "int") (u := .type "int") T.b_int (by decide +kernel) rfl) T.ans_int T.b_isinstance
      exact (pd_var 1)
      refine pds_one ?_
      exact (pds_ret pd_bl)
      refine pds_one ?_
      refine pds_ret ?_
      refine pd_and ?_ ?_
      refine pd_cmp (od_eq hr.units) ?_ ?_
      refine pd_isi ?_ (ClsV.ty _) (pd_bltn (v := .ty "str") (u := .type "str") T.b_str (by decide +kernel) rfl) T.ans_str__Ratio T.b_isinstance
      exact (pd_var 0)
      refine pd_isi ?_ (ClsV.ty _) (pd_bltn (v := .ty "str") (u := .type "str") T.b_str (by decide +kernel) rfl) T.ans_str T.b_isinstance
      exact (pd_var 1)
      refine pd_one ?_
      refine pd_cmp (od_or (od_or (od_ownEq (k := 2) (by intro r hr; simp only [List.mem_cons, List.not_mem_nil, or_false] at hr; subst hr; exact (eqo_0 T (by decide))) (hr.mono (by omega))) (od_eq hr.units)) (od_eqX (k := 2) (by intro r hr; simp only [List.mem_cons, List.not_mem_nil, or_false] at hr; subst hr; exact (eqo_0 T (by decide))) 5 (hr.mono (by omega)))) ?_ ?_
      exact (pd_var 0)
      exact (pd_var 1)), (Bd.nil (FD.bindsN (fun _ _ _ _ _ _ us hl => match us, hl with | [_, _], _ => rfl))), rfl⟩
theorem ok_w_ratio_in (T : Txt P K mg base c) {f : Addr} {fd : FuncData} (FD : FunD K "_law_ratio_in" "_law_ratio_in" (defArgs s_w_ratio_in) (defBody s_w_ratio_in) (defScope s_w_ratio_in) [] [] f fd) : FnD P w K mg base 3 f fd ["_law_text_z"] (F_w_ratio_in c) := fnD_of (N := ["_law_text_z", "_law_front", "_law_sign", "_law_behind", "_law_digits", "_law_word_here", "_law_one_here", "_law_p"]) FD sc_w_ratio_in (fun cdv A outer s H E hr => by
    refine pds_cons ?_ ?_
    refine pds_asg ?_ (pdg_tup (n := 3) (by rfl) (pdgs_cons (pdg_name 1 sc_w_ratio_in.nd) (pdgs_cons (pdg_name 2 sc_w_ratio_in.nd) (pdgs_cons (pdg_name 3 sc_w_ratio_in.nd) pdgs_nil))))
    refine pd_partition ?_ pd_str
    exact (pd_var 0)
    refine pds_cons ?_ ?_
    refine pds_set (i := 4) ?_ sc_w_ratio_in.nd
    refine pd_if ?_ ?_ ?_
    refine pdt_cmp (od_eq hr.units) ?_ pd_str
    refine pd_slStr ?_ pdo_none ?_
    exact (pd_var 1)
    exact (pdo_some pd_int)
    refine pd_slStr ?_ ?_ pdo_none
    exact (pd_var 1)
    exact (pdo_some pd_int)
    exact (pd_var 1)
    refine pds_cons ?_ ?_
    refine pds_for ?_ (pdg_name 5 sc_w_ratio_in.nd) ?_ (by rfl) (passes_of rfl)
    refine pdi_list ?_
    refine pd_op od_cat ?_ ?_
    refine pd_lst ?_
    refine pda_c ?_ pda_nil
    exact (pd_var 4)
    refine pd_if ?_ ?_ ?_
    refine pdt_cmp (od_eq hr.units) ?_ pd_str
    exact (pd_var 2)
    refine pd_lst ?_
    refine pda_c ?_ pda_nil
    exact (pd_var 3)
    exact (pd_lst pda_nil)
    refine pds_one ?_
    refine pds_if ?_ ?_ pds_nil
    refine PDW.pt ?_
    refine pdw_or ?_ ?_
    refine pdt_cmp (od_eq hr.units) ?_ pd_str
    exact (pd_var 5)
    refine pdw_or ?_ ?_
    refine pdt_not ?_
    refine pdt_val ?_
    refine pd_bc (oc_all (by rfl)) T.b_all (by decide +kernel) ?_
    refine pda_c ?_ pda_nil
    refine pd_lc ?_ sc_w_ratio_in.nd (blkOk_by (own := [("_law_one_here", 6)]) (by rfl)) (fun _ _ _ _ _ => (pdg_name 6 sc_w_ratio_in.nd)) ?_ ?_ (by rfl)
    refine pdi_str ?_
    exact (pd_var 5)
    intro _ _ _ _ _
    exact (pdts_nil)
    intro _ _ _ _ _
    refine pd_cmp od_in ?_ pd_str (by rfl)
    exact (pd_var 6)
    refine pdw_or1 ?_
    refine PDW.pt ?_
    refine pdw_and ?_ ?_
    refine pdt_cmp od_gt ?_ pd_int
    refine pd_bc oc_len T.b_len (by decide +kernel) ?_
    refine pda_c ?_ pda_nil
    exact (pd_var 5)
    refine pdw_and1 ?_
    refine pdt_cmp (od_eq hr.units) ?_ pd_str
    refine pd_ix ?_ pd_int
    exact (pd_var 5)
    refine pds_one ?_
    exact (pds_ret pd_non)
    refine pds_cons ?_ ?_
    refine pds_if ?_ ?_ pds_nil
    refine PDW.pt ?_
    refine pdw_or ?_ ?_
    refine pdt_cmp od_gt ?_ pd_int
    refine pd_bc oc_len T.b_len (by decide +kernel) ?_
    refine pda_c ?_ pda_nil
    exact (pd_var 0)
    refine pdw_or ?_ ?_
    refine pdt_cmp (od_eq hr.units) ?_ pd_str
    exact (pd_var 1)
    refine pdw_or1 ?_
    refine PDW.pt ?_
    refine pdw_and ?_ ?_
    refine pdt_cmp (od_eq hr.units) ?_ pd_str
    exact (pd_var 2)
    refine pdw_and1 ?_
    refine pdt_cmp od_in ?_ ?_ (by rfl)
    exact (pd_var 3)
    refine pd_lst ?_
    refine pda_str ?_
    exact (pda_str pda_nil)
    refine pds_one ?_
    exact (pds_ret pd_non)
    refine pds_cons ?_ ?_
    refine pds_set (i := 7) ?_ sc_w_ratio_in.nd
    refine pd_tup ?_
    refine pda_c ?_ ?_
    refine pd_bt oc_intS T.b_int (by decide +kernel) ?_
    refine pda_c ?_ pda_nil
    exact (pd_var 1)
    refine pda_c ?_ pda_nil
    refine pd_if ?_ ?_ pd_int
    refine pdt_cmp (od_eq hr.units) ?_ pd_str
    exact (pd_var 2)
    refine pd_bt oc_intS T.b_int (by decide +kernel) ?_
    refine pda_c ?_ pda_nil
    exact (pd_var 3)
    refine pds_one ?_
    refine pds_ret ?_
    refine pd_if ?_ ?_ pd_non
    refine pdt_cmp (od_eq hr.units) ?_ ?_
    refine pd_fun (ft_w_frac_2 T) (hr.mono (by decide)) ?_
    refine pda_c ?_ ?_
    refine pd_ix ?_ pd_int
    exact (pd_var 7)
    refine pda_c ?_ pda_nil
    refine pd_ix ?_ pd_int
    exact (pd_var 7)
    exact (pd_var 7)
    exact (pd_var 7))
theorem ft_w_ratio_in_1 (T : Txt P K mg base c) : FT P w K mg base 3 "_law_ratio_in" (padF 1 [] (F_w_ratio_in c)) := by
  obtain ⟨f, fd, hm, FD⟩ := T.fn_w_ratio_in
  exact ⟨f, fd, _, _, _, hm, FD.kp, ok_w_ratio_in T FD, (Bd.nil (FD.bindsN (fun _ _ _ _ _ _ us hl => match us, hl with | [_], _ => rfl))), rfl⟩
theorem lo_0 (T : Txt P K mg base c) : LamOk P w K mg base 7 0 (L_0 c) := lamOk_of (k := 0) (by decide +kernel) lb_0 (fun g f c' A outer s H E hr => by
    refine pd_cmeth (cm_Ratio_Ratio_read_1 T) (hr.mono (by decide)) ?_
    refine pda_c ?_ pda_nil
    exact (pd_var 0))
theorem lo_1 (T : Txt P K mg base c) : LamOk P w K mg base 7 1 (L_1 c) := lamOk_of (k := 1) (by decide +kernel) lb_1 (fun g f c' A outer s H E hr => by
    refine pd_cmeth (cm_Ratio_Ratio_read_1 T) (hr.mono (by decide)) ?_
    refine pda_c ?_ pda_nil
    exact (pd_var 0))
theorem lto_LT0 (T : Txt P K mg base c) : ∀ r ∈ LT0 c, LamOk P w K mg base 7 r.1 r.2 := by
  intro r hr; unfold LT0 at hr; simp only [List.mem_cons, List.not_mem_nil, or_false] at hr
  rcases hr with rfl | rfl <;> first | exact (lo_0 T).mono (by decide) | exact (lo_1 T).mono (by decide)
theorem ok_w_field (T : Txt P K mg base c) {f : Addr} {fd : FuncData} (FD : FunD K "_law_field" "_law_field" (defArgs s_w_field) (defBody s_w_field) (defScope s_w_field) [] [] f fd) : FnDQ P w K mg base 2 f fd ["_law_e"] (F_w_field c) := fnDQ_of (N := ["_law_e"]) FD sc_w_field (fun cdv A outer s H E hr => by
    refine pds_cons ?_ ?_
    refine pds_if ?_ ?_ pds_nil
    refine pdt_cmp od_in ?_ ?_ (by rfl)
    refine pd_xf ?_ (by intro C hC; simp only [List.mem_cons, List.not_mem_nil, or_false] at hC; subst hC; exact ⟨T.xf_InvalidRatio, T.nx_InvalidRatio_code⟩)
    exact (pd_var 0)
    refine pd_lst ?_
    refine pda_str ?_
    exact (pda_str pda_nil)
    refine pds_one ?_
    refine pds_ret ?_
    refine pd_tup ?_
    refine pda_c ?_ pda_nil
    refine pd_xf ?_ (fun C hC => (nomatch hC))
    exact (pd_var 0)
    refine pds_cons ?_ ?_
    refine pds_if ?_ ?_ pds_nil
    refine pdt_cmp od_in ?_ ?_ (by rfl)
    refine pd_xf ?_ (by intro C hC; simp only [List.mem_cons, List.not_mem_nil, or_false] at hC; subst hC; exact ⟨T.xf_InvalidRatio, T.nx_InvalidRatio_code⟩)
    exact (pd_var 0)
    refine pd_lst ?_
    refine pda_str ?_
    refine pda_str ?_
    exact (pda_str pda_nil)
    refine pds_one ?_
    refine pds_ret ?_
    refine pd_tup ?_
    refine pda_c ?_ pda_nil
    refine pd_xf ?_ (fun C hC => (nomatch hC))
    exact (pd_var 0)
    refine pds_cons ?_ ?_
    refine pds_if ?_ ?_ pds_nil
    refine pdt_cmp od_in ?_ ?_ (by rfl)
    refine pd_xf ?_ (by intro C hC; simp only [List.mem_cons, List.not_mem_nil, or_false] at hC; subst hC; exact ⟨T.xf_InvalidRatio, T.nx_InvalidRatio_code⟩)
    exact (pd_var 0)
    refine pd_lst ?_
    refine pda_str ?_
    exact (pda_str pda_nil)
    refine pds_one ?_
    refine pds_ret ?_
    refine pd_if ?_ ?_ ?_
    refine pdt_cmp (od_eq hr.units) ?_ pd_str
    refine pd_xf ?_ (by intro C hC; simp only [List.mem_cons, List.not_mem_nil, or_false] at hC; subst hC; exact ⟨T.xf_InvalidRatio, T.nx_InvalidRatio_code⟩)
    exact (pd_var 0)
    refine pd_tup ?_
    refine pda_c ?_ pda_nil
    refine pd_xf ?_ (fun C hC => (nomatch hC))
    exact (pd_var 0)
    refine pd_tup ?_
    refine pda_c ?_ pda_nil
    refine pd_xf ?_ (fun C hC => (nomatch hC))
    exact (pd_var 0)
    refine pds_cons ?_ ?_
    refine pds_if ?_ ?_ pds_nil
    refine pdt_cmp od_in ?_ ?_ (by rfl)
    refine pd_xf ?_ (by intro C hC; simp only [List.mem_cons, List.not_mem_nil, or_false] at hC; subst hC; exact ⟨T.xf_InvalidRatio, T.nx_InvalidRatio_code⟩)
    exact (pd_var 0)
    refine pd_lst ?_
    refine pda_str ?_
    exact (pda_str pda_nil)
    refine pds_one ?_
    refine pds_ret ?_
    refine pd_if ?_ ?_ ?_
    refine pdt_cmp (od_eq hr.units) ?_ pd_str
    refine pd_xf ?_ (by intro C hC; simp only [List.mem_cons, List.not_mem_nil, or_false] at hC; subst hC; exact ⟨T.xf_InvalidRatio, T.nx_InvalidRatio_code⟩)
    exact (pd_var 0)
    refine pd_tup ?_
    refine pda_c ?_ pda_nil
    refine pd_xf ?_ (fun C hC => (nomatch hC))
    exact (pd_var 0)
    refine pd_tup ?_
    refine pda_c ?_ pda_nil
    refine pd_xf ?_ (fun C hC => (nomatch hC))
    exact (pd_var 0)
    refine pds_cons ?_ ?_
    refine pds_if ?_ ?_ pds_nil
    refine pdt_cmp od_in ?_ ?_ (by rfl)
    refine pd_xf ?_ (by intro C hC; simp only [List.mem_cons, List.not_mem_nil, or_false] at hC; subst hC; exact ⟨T.xf_InvalidRatio, T.nx_InvalidRatio_code⟩)
    exact (pd_var 0)
    refine pd_lst ?_
    refine pda_str ?_
    exact (pda_str pda_nil)
    refine pds_one ?_
    refine pds_ret ?_
    refine pd_if ?_ ?_ ?_
    refine pdt_cmp (od_eq hr.units) ?_ pd_str
    refine pd_xf ?_ (by intro C hC; simp only [List.mem_cons, List.not_mem_nil, or_false] at hC; subst hC; exact ⟨T.xf_InvalidRatio, T.nx_InvalidRatio_code⟩)
    exact (pd_var 0)
    refine pd_tup ?_
    refine pda_c ?_ pda_nil
    refine pd_xf ?_ (fun C hC => (nomatch hC))
    exact (pd_var 0)
    refine pd_tup ?_
    refine pda_c ?_ ?_
    refine pd_xf ?_ (fun C hC => (nomatch hC))
    exact (pd_var 0)
    refine pda_c ?_ pda_nil
    refine pd_xf ?_ (fun C hC => (nomatch hC))
    exact (pd_var 0)
    refine pds_one ?_
    refine pds_ret ?_
    refine pd_if ?_ ?_ ?_
    refine pdt_cmp (od_eq hr.units) ?_ pd_str
    refine pd_xf ?_ (by intro C hC; simp only [List.mem_cons, List.not_mem_nil, or_false] at hC; subst hC; exact ⟨T.xf_InvalidRatio, T.nx_InvalidRatio_code⟩)
    exact (pd_var 0)
    exact (pd_tup pda_nil)
    refine pd_tup ?_
    refine pda_c ?_ pda_nil
    refine pd_xf ?_ (by intro C hC; simp only [List.mem_cons, List.not_mem_nil, or_false] at hC; subst hC; exact ⟨T.xf_InvalidRatio, T.nx_InvalidRatio_given⟩)
    exact (pd_var 0))
theorem fq_w_field_1 (T : Txt P K mg base c) : FQ P w K mg base 2 "_law_field" (padF 1 [] (F_w_field c)) := by
  obtain ⟨f, fd, hm, FD⟩ := T.fn_w_field
  exact ⟨f, fd, _, _, _, hm, FD.kp, ok_w_field T FD, (Bd.nil (FD.bindsN (fun _ _ _ _ _ _ us hl => match us, hl with | [_], _ => rfl))), rfl⟩
theorem ok_w_try (T : Txt P K mg base c) {f : Addr} {fd : FuncData} (FD : FunD K "_law_try" "_law_try" (defArgs s_w_try) (defBody s_w_try) (defScope s_w_try) [] [] f fd) : FnD P w K mg base 8 f fd ["_law_ask"] (F_w_try c) := fnD_of (N := ["_law_ask", "_law_e"]) FD sc_w_try (fun cdv A outer s H E hr => by
    refine pds_one ?_
    refine pds_tryAs (i := 1) rfl rfl sc_w_try.nd rfl rfl rfl (test_three T.gc_CycleError T.gc_Missing T.gc_NothingLeft (by intro C hC; simp only [List.mem_cons, List.not_mem_nil, or_false] at hC; subst hC; exact T.xm_CycleError_Missing_NothingLeft_InvalidRatio)) ?_ ?_
    intro _ _
    refine pds_one ?_
    refine pds_ret ?_
    refine pd_tup ?_
    refine pda_str ?_
    refine pda_c ?_ pda_nil
    exact (pd_ask0 (lv := 7) (i := 0) (lto_LT0 T) (hr.mono (by decide)))
    intro _ _
    refine pds_one ?_
    refine pds_ret ?_
    refine pd_tup ?_
    refine pda_c ?_ ?_
    refine pd_xf ?_ (by intro C hC; simp only [List.mem_cons, List.not_mem_nil, or_false] at hC; subst hC; exact ⟨T.xf_InvalidRatio, T.nx_InvalidRatio_code⟩)
    exact (pd_var 1)
    refine pda_c ?_ pda_nil
    refine pd_funQ (fq_w_field_1 T) (roomH_mark (hr.mono (by decide))) ?_
    refine pda_c ?_ pda_nil
    exact (pd_var 1))
theorem ft_w_try_1 (T : Txt P K mg base c) : FT P w K mg base 8 "_law_try" (padF 1 [] (F_w_try c)) := by
  obtain ⟨f, fd, hm, FD⟩ := T.fn_w_try
  exact ⟨f, fd, _, _, _, hm, FD.kp, ok_w_try T FD, (Bd.nil (FD.bindsN (fun _ _ _ _ _ _ us hl => match us, hl with | [_], _ => rfl))), rfl⟩
theorem star_list (es : List Expr) (p : Pos) : isStar (.List es p) = false := rfl
theorem ok_law (T : Txt P K mg base c) {f : Addr} {fd : FuncData} (HM : MkOk K mg base (("law" : Str) ++ (".<locals>." : Str) ++ ("<lambda>" : Str)) f) (FD : FunD K "law" "law" (defArgs s_law) (defBody s_law) (defScope s_law) [] [] f fd) : FnD P w K mg base 17 f fd ["_law_script"] (F_law c) := fnDG_of (N := ["_law_script", "_law_bag", "_law_turn", "_law_p", "_law_word_here", "_law_again", "_law_at", "_law_way", "_law_sign", "_law_due", "_law_code", "_law_told", "_law_bad"]) (t := D_law c) FD sc_law HM.code (fun A outer s H E hr => by
    refine pds_cons ?_ ?_
    refine pds_set (i := 1) ?_ sc_law.nd
    refine pd_fun (ft_w_begin_1 T) (hr.mono (by decide)) ?_
    refine pda_c ?_ pda_nil
    exact (pd_var 0)
    refine pds_cons ?_ ?_
    refine pds_for ?_ (pdg_name 2 sc_law.nd) ?_ (by rfl) (passes_of rfl)
    refine pdi_range1 T.b_range ?_
    exact (pda_int pda_nil)
    refine pds_cons ?_ ?_
    refine pds_set (i := 3) ?_ sc_law.nd
    refine pd_fun (ft_w_any_frac_1 T) (hr.mono (by decide)) ?_
    refine pda_c ?_ pda_nil
    exact (pd_var 1)
    refine pds_cons ?_ ?_
    refine pds_set (i := 4) ?_ sc_law.nd
    refine pd_fun (ft_w_word_2 T) (hr.mono (by decide)) ?_
    refine pda_c ?_ ?_
    refine pd_ix ?_ pd_int
    exact (pd_var 3)
    refine pda_c ?_ pda_nil
    refine pd_ix ?_ pd_int
    exact (pd_var 3)
    refine pds_cons ?_ ?_
    refine pds_if ?_ ?_ pds_nil
    refine pdt_not ?_
    refine pdt_val ?_
    refine pd_fun (ft_w_like_2 T 8) (hr.mono (by decide)) ?_
    refine pda_c ?_ ?_
    refine pd_lst ?_
    refine pda_c ?_ ?_
    refine pd_fun (ft_w_parts_1 T) (hr.mono (by decide)) ?_
    refine pda_c ?_ pda_nil
    refine pd_cmeth (cm_Ratio_Ratio_read_1 T) (hr.mono (by decide)) ?_
    refine pda_c ?_ pda_nil
    exact (pd_var 4)
    refine pda_c ?_ pda_nil
    refine pd_bt (oc_strO (k := 2) (by intro r hr; simp only [List.mem_cons, List.not_mem_nil, or_false] at hr; subst hr; exact (((mt_Ratio_RatioD_strD_1 T)).mono (by decide))) (hr.mono (by decide))) T.b_str (by decide +kernel) ?_
    refine pda_c ?_ pda_nil
    refine pd_cmethK0 (ks := ["text"]) (cmk_Ratio_Ratio_read_text T) (hr.mono (by decide)) ?_
    refine pdk_cons ?_ pdk_nil
    exact (pd_var 4)
    refine pda_c ?_ pda_nil
    refine pd_lst ?_
    refine pda_c ?_ ?_
    exact (pd_var 3)
    refine pda_c ?_ pda_nil
    exact (pd_var 4)
    refine pds_one ?_
    exact (pds_ret pd_bl)
    refine pds_cons ?_ ?_
    refine pds_for ?_ (pdg_name 5 sc_law.nd) ?_ (by rfl) (passes_of rfl)
    refine pdi_range1 T.b_range ?_
    refine pda_c ?_ pda_nil
    refine pd_op od_add pd_int ?_
    refine pd_fun (ft_w_take_2 T) (hr.mono (by decide)) ?_
    refine pda_c ?_ ?_
    exact (pd_var 1)
    exact (pda_int pda_nil)
    refine pds_cons ?_ ?_
    refine pds_par3 (i := 6) (j := 7) (l := 8) ?_ (by rfl) sc_law.nd
    refine pda_c ?_ ?_
    refine pd_fun (ft_w_take_2 T) (hr.mono (by decide)) ?_
    refine pda_c ?_ ?_
    exact (pd_var 1)
    refine pda_c ?_ pda_nil
    refine pd_op od_add ?_ pd_int
    refine pd_bc oc_len T.b_len (by decide +kernel) ?_
    refine pda_c ?_ pda_nil
    exact (pd_var 4)
    refine pda_c ?_ ?_
    refine pd_fun (ft_w_take_2 T) (hr.mono (by decide)) ?_
    refine pda_c ?_ ?_
    exact (pd_var 1)
    exact (pda_int pda_nil)
    refine pda_c ?_ pda_nil
    refine pd_fun (ft_w_one_2 T) (hr.mono (by decide)) ?_
    refine pda_c ?_ ?_
    exact (pd_var 1)
    exact (pda_str pda_nil)
    refine pds_one ?_
    refine pds_set (i := 4) ?_ sc_law.nd
    refine pd_op od_addS ?_ ?_
    refine pd_op od_addS ?_ ?_
    refine pd_slStr ?_ pdo_none ?_
    exact (pd_var 4)
    refine pdo_some ?_
    exact (pd_var 6)
    refine pd_if ?_ pd_str ?_
    refine pdt_cmp (od_eq hr.units) ?_ pd_int
    exact (pd_var 7)
    exact (pd_var 8)
    refine pd_slStr ?_ ?_ pdo_none
    exact (pd_var 4)
    refine pdo_some ?_
    refine pd_op od_add ?_ ?_
    exact (pd_var 6)
    refine pd_if ?_ pd_int pd_int
    refine pdt_cmp (od_eq hr.units) ?_ pd_int
    exact (pd_var 7)
    refine pds_cons ?_ ?_
    refine pds_set (i := 9) ?_ sc_law.nd
    refine pd_fun (ft_w_ratio_in_1 T) (hr.mono (by decide)) ?_
    refine pda_c ?_ pda_nil
    exact (pd_var 4)
    refine pds_cons ?_ ?_
    refine pds_asg ?_ (pdg_tup (n := 2) (by rfl) (pdgs_cons (pdg_name 10 sc_law.nd) (pdgs_cons (pdg_name 11 sc_law.nd) pdgs_nil)))
    refine pd_funL (rows := lr_law) (ft_w_try_1 T) (hr.mono (by decide)) lro_law ?_
    refine pda_c ?_ pda_nil
    exact (pd_lam0 (k := 0) rfl HM.tb HM.mem HM.un rfl lf_0)
    refine pds_cons ?_ ?_
    refine pds_if ?_ ?_ pds_nil
    refine PDW.pt ?_
    refine pdw_and ?_ ?_
    refine pdt_cmp od_isN ?_ pd_non
    exact (pd_var 9)
    refine pdw_and1 ?_
    refine pdt_not ?_
    refine pdt_val ?_
    refine pd_fun (ft_w_like_2 T 8) (hr.mono (by decide)) ?_
    refine pda_c ?_ ?_
    refine pd_tup ?_
    refine pda_c ?_ ?_
    exact (pd_var 10)
    refine pda_c ?_ pda_nil
    exact (pd_var 11)
    refine pda_c ?_ pda_nil
    refine pd_tup ?_
    refine pda_str ?_
    refine pda_c ?_ pda_nil
    refine pd_tup ?_
    refine pda_c ?_ pda_nil
    exact (pd_var 4)
    refine pds_one ?_
    exact (pds_ret pd_bl)
    refine pds_cons ?_ ?_
    refine pds_if ?_ ?_ pds_nil
    refine PDW.pt ?_
    refine pdw_and ?_ ?_
    refine pdt_cmp od_notN ?_ pd_non
    exact (pd_var 9)
    refine pdw_and1 ?_
    refine PDW.pt ?_
    refine pdw_or ?_ ?_
    refine pdt_cmp (od_ne hr.units) ?_ pd_str
    exact (pd_var 10)
    refine pdw_or1 ?_
    refine pdt_not ?_
    refine pdt_val ?_
    refine pd_fun (ft_w_like_2 T 8) (hr.mono (by decide)) ?_
    refine pda_c ?_ ?_
    refine pd_fun (ft_w_parts_1 T) (hr.mono (by decide)) ?_
    refine pda_c ?_ pda_nil
    exact (pd_var 11)
    refine pda_c ?_ pda_nil
    exact (pd_var 9)
    refine pds_one ?_
    exact (pds_ret pd_bl)
    refine pds_cons ?_ ?_
    refine pds_set (i := 12) ?_ sc_law.nd
    refine pd_fun (ft_w_one_2 T) (hr.mono (by decide)) ?_
    refine pda_c ?_ ?_
    exact (pd_var 1)
    with_reducible refine pda_c ?_ pda_nil (star_list _ _)
    with_reducible refine pd_lst ?_
    with_reducible refine pda_str ?_
    with_reducible refine pda_str ?_
    with_reducible refine pda_str ?_
    with_reducible refine pda_str ?_
    with_reducible refine pda_str ?_
    with_reducible refine pda_str ?_
    with_reducible refine pda_str ?_
    with_reducible refine pda_str ?_
    with_reducible refine pda_str ?_
    with_reducible refine pda_str ?_
    with_reducible refine pda_str ?_
    with_reducible refine pda_str ?_
    with_reducible refine pda_str ?_
    with_reducible refine pda_str ?_
    with_reducible refine pda_str ?_
    with_reducible refine pda_str ?_
    with_reducible refine pda_str ?_
    with_reducible refine pda_str ?_
    with_reducible refine pda_str ?_
    with_reducible refine pda_str ?_
    with_reducible refine pda_non ?_
    with_reducible refine pda_int ?_
    with_reducible refine pda_bl ?_
    refine pda_c ?_ ?_
    refine pd_tup ?_
    exact (pda_str pda_nil)
    refine pda_c ?_ ?_
    refine pd_lst ?_
    exact (pda_str pda_nil)
    refine pda_c ?_ pda_nil
    exact (pd_op od_repS pd_str pd_int)
    refine pds_one ?_
    refine pds_if ?_ ?_ pds_nil
    refine pdt_not ?_
    refine pdt_val ?_
    refine pd_fun (ft_w_like_2 T 8) (hr.mono (by decide)) ?_
    refine pda_c ?_ ?_
    refine pd_funL (rows := lr_law) (ft_w_try_1 T) (hr.mono (by decide)) lro_law ?_
    refine pda_c ?_ pda_nil
    exact (pd_lam0 (k := 1) rfl HM.tb HM.mem HM.un rfl lf_1)
    refine pda_c ?_ pda_nil
    refine pd_tup ?_
    refine pda_str ?_
    refine pda_c ?_ pda_nil
    refine pd_tup ?_
    refine pda_c ?_ pda_nil
    exact (pd_var 12)
    refine pds_one ?_
    exact (pds_ret pd_bl)
    refine pds_one ?_
    refine pds_ret ?_
    refine pd_fun (ft_w_like_2 T 8) (hr.mono (by decide)) ?_
    refine pda_c ?_ ?_
    refine pd_fun (ft_w_parts_1 T) (hr.mono (by decide)) ?_
    refine pda_c ?_ pda_nil
    refine pd_cmeth (cm_Ratio_Ratio_read_1 T) (hr.mono (by decide)) ?_
    refine pda_c ?_ pda_nil
    exact (pd_op od_repS pd_str pd_int)
    refine pda_c ?_ pda_nil
    refine pd_tup ?_
    refine pda_c ?_ ?_
    refine pd_bt oc_intS T.b_int (by decide +kernel) ?_
    refine pda_c ?_ pda_nil
    exact (pd_op od_repS pd_str pd_int)
    exact (pda_int pda_nil))
end
end W

set_option maxHeartbeats 1000000
namespace W
open PySem PySem.Spec L2 DL
@[simp] theorem lr_law_0 : lr_law.lookup 0 = some [4] := rfl
@[simp] theorem lr_law_1 : lr_law.lookup 1 = some [12] := rfl
@[simp] theorem LT0_0 (c : Cs) : (LT0 c).lookup 0 = some (L_0 c) := rfl
@[simp] theorem LT0_1 (c : Cs) : (LT0 c).lookup 1 = some (L_1 c) := rfl
theorem try_ret (c : Cs) {k : Nat} {ds : List D} {m m1 : Mu} {G : DFn} {d : D} (hG : (LT0 c).lookup k = some G) (hm : Cl m) (hd : belows m.length ds = true) (h1 : (LamTab.tab k).dds.length = (LamTab.tab k).ps.length) (h2 : ds.length = (LamTab.tab k).free.length) (h : G ((LamTab.tab k).dds.map D.int ++ ds) m = .ok d m1) : F_w_try c [.clo k ds] m = .ok (.tup [.str "", d]) m1 := by
  have hz : sizeLine = 16777216 := rfl
  have hb : belows m.length [] = true := rfl
  have he : dAsk (LT0 c) 0 dNil [some (D.clo k ds), none] m = G ((LamTab.tab k).dds.map D.int ++ ds) m := by
    simp [hG, hm, hd, hb, h1, h2]
  have q : B_w_try_1 c [some (D.clo k ds), none] m = .rt (.tup [.str "", d]) m1 := by
    rw [B_w_try_1_ap]
    simp [he, h, hz, -dAsk_ap]
  simp [F_w_try, env0, q]
theorem init_InvalidRatio (c : Cs) (v : D) (m : Mu) : F_InvalidRatioD_initD c [.loc m.length, v] (m ++ [.exo c.cInvalidRatio none]) = .ok .non (m ++ [.exo c.cInvalidRatio (some (m.length + 1)), .exd [("given", v), ("code", .str "InvalidRatio")]]) := by
  have hz : sizeLine = 16777216 := rfl
  have h1 : (m ++ [Mo.exo c.cInvalidRatio none])[m.length]? = some (Mo.exo c.cInvalidRatio none) := by simp
  simp [F_InvalidRatioD_initD, F_CycleErrorD_initD, env0, Mo.cls, hz]
theorem raise_InvalidRatio (c : Cs) (v : D) {m : Mu} (e : En) (hm : Cl m) (hv : below m.length v = true) : mkExc c.cInvalidRatio m e (padF 2 [] (F_InvalidRatioD_initD c) [.loc m.length, v] (m ++ [.exo c.cInvalidRatio none])) = .exc c.cInvalidRatio [("given", v), ("code", .str "InvalidRatio")] e m := by
  have h := init_InvalidRatio c v m
  simp [h, mkExc, hm, belows, below, hv]
theorem field_InvalidRatio (c : Cs) (v : D) (m : Mu) : F_w_field c [.xob ⟨c.cInvalidRatio, ["given", "code"]⟩ [v, .str "InvalidRatio"]] m = .ok (.tup [v]) m := by
  have hz : sizeLine = 16777216 := rfl
  have l1 : ∀ v w : D, List.lookup (Str.ofString "code") [(Str.ofString "given", v), (Str.ofString "code", w)] = some w := fun _ _ => rfl
  have l2 : ∀ v w : D, List.lookup (Str.ofString "given") [(Str.ofString "given", v), (Str.ofString "code", w)] = some v := fun _ _ => rfl
  have i0 : inV (V.str (Str.ofString "InvalidRatio")) [V.str (Str.ofString "InvalidLine"), V.str (Str.ofString "InvalidFact")] = false := rfl
  have i1 : inV (V.str (Str.ofString "InvalidRatio")) [V.str (Str.ofString "DuplicateName"), V.str (Str.ofString "TooShort"), V.str (Str.ofString "UnknownName")] = false := rfl
  have i2 : inV (V.str (Str.ofString "InvalidRatio")) [V.str (Str.ofString "InvalidCommand"), V.str (Str.ofString "InvalidText")] = false := rfl
  have i3 : inV (V.str (Str.ofString "InvalidRatio")) [V.str (Str.ofString "TooMany"), V.str (Str.ofString "Full")] = false := rfl
  have i4 : inV (V.str (Str.ofString "InvalidRatio")) [V.str (Str.ofString "Contradiction"), V.str (Str.ofString "Unbounded")] = false := rfl
  have j0 : gEq (.str (Str.ofString "InvalidRatio")) (.str (Str.ofString "InvalidCommand")) m = .ok (.bl false) m := rfl
  have j1 : gEq (.str (Str.ofString "InvalidRatio")) (.str (Str.ofString "TooMany")) m = .ok (.bl false) m := rfl
  have j2 : gEq (.str (Str.ofString "InvalidRatio")) (.str (Str.ofString "Contradiction")) m = .ok (.bl false) m := rfl
  have j3 : gEq (.str (Str.ofString "InvalidRatio")) (.str (Str.ofString "NothingLeft")) m = .ok (.bl false) m := rfl
  simp [F_w_field, env0, noExcR, hz, l1, l2, i0, i1, i2, i3, i4, j0, j1, j2, j3, toV, toVs]
theorem try_InvalidRatio (c : Cs) {k : Nat} {ds : List D} {m m1 : Mu} {G : DFn} {v : D} (hG : (LT0 c).lookup k = some G) (hm : Cl m) (hd : belows m.length ds = true) (h1 : (LamTab.tab k).dds.length = (LamTab.tab k).ps.length) (h2 : ds.length = (LamTab.tab k).free.length) (h : G ((LamTab.tab k).dds.map D.int ++ ds) m = .exc c.cInvalidRatio [("given", v), ("code", .str "InvalidRatio")] m1) : F_w_try c [.clo k ds] m = .ok (.tup [.str "InvalidRatio", .tup [v]]) m1 := by
  have hz : sizeLine = 16777216 := rfl
  have hb : belows m.length [] = true := rfl
  have he : dAsk (LT0 c) 0 dNil [some (D.clo k ds), none] m = G ((LamTab.tab k).dds.map D.int ++ ds) m := by
    simp [hG, hm, hd, hb, h1, h2]
  have q : B_w_try_1 c [some (D.clo k ds), none] m = .exc c.cInvalidRatio [("given", v), ("code", .str "InvalidRatio")] [some (D.clo k ds), none] m1 := by
    rw [B_w_try_1_ap]
    simp [he, h, hz, -dAsk_ap]
  have l1 : ∀ v w : D, List.lookup (Str.ofString "code") [(Str.ofString "given", v), (Str.ofString "code", w)] = some w := fun _ _ => rfl
  have e2 := field_InvalidRatio c v m1
  simp [F_w_try, env0, q, B_w_try_2_ap, l1, e2, hz]
@[simp] theorem orF_ap (f g : DFn) (ds : List D) (m : Mu) : orF f g ds m = match f ds m with
  | .stuck => g ds m
  | r => r := rfl
@[simp] theorem tru_bl (m : Mu) (b : Bool) : dTru m (.bl b) = some b := rfl
@[simp ↓] theorem dTrO_ap (rows : List (Kl × DFn)) (t : DE) (e : En) (m : Mu) : dTrO rows t e m = (t e m).bind fun d m => match dTru m d with
  | some b => .ok b m
  | none => match insOf m d with
    | some (C, ns, _) => match methAt rows C ns with
      | some G => (G [d] m).bind fun r m => match r with
        | .bl b => .ok b m
        | _ => .stuck
      | none => .stuck
    | none => .stuck := rfl
@[simp ↓] theorem dNotO_ap (rows : List (Kl × DFn)) (t : DE) (e : En) (m : Mu) : dNotO rows t e m = (dTrO rows t e m).bind fun b m => .ok (.bl !b) m := rfl
theorem log_lt {n k : Nat} (h : n < 2 ^ k) (hk : 0 < k) : n.log2 < k := by
  by_cases h0 : n = 0
  · subst h0; simpa using hk
  · exact (Nat.log2_lt h0).mpr h
theorem log_le {n : Nat} {k : Nat} (h : n ≤ 2 ^ k) : n.log2 ≤ k := by
  by_cases h0 : n = 0
  · subst h0; simp
  · have := (Nat.log2_lt h0 (k := k + 1)).mpr (by rw [Nat.pow_succ]; omega)
    omega
theorem mulOk_of {i j : Int} (h : i.natAbs.log2 + j.natAbs.log2 < 1000000) : mulOk i j = true := by
  unfold mulOk; simpa using h
theorem divOk_of {i j : Int} (h0 : j ≠ 0) (h : j.natAbs.log2 < 9000) : divOk i j = true := by
  unfold divOk; simp [h0, h]
theorem int_log {i : Int} {k : Nat} (h1 : -(2 ^ k : Nat) < i) (h2 : i < (2 ^ k : Nat)) (hk : 0 < k) : i.natAbs.log2 < k := log_lt (by omega) hk
theorem mulOk_lt {i j : Int} (h1 : -(2 ^ 100 : Nat) < i) (h2 : i < (2 ^ 100 : Nat)) (h3 : -(2 ^ 100 : Nat) < j) (h4 : j < (2 ^ 100 : Nat)) : mulOk i j = true :=
  mulOk_of (by have := int_log h1 h2 (by decide); have := int_log h3 h4 (by decide); omega)
def bagO (cells : List Int) (i r x : Int) : Mo := .lst [.lst (cells.map .int), .int i, .int r, .int x]
structure BagO (o : Mo) : Prop where
  ex : ∃ (cells : List Int) (i r x : Int), o = bagO cells i r x ∧ 0 ≤ i ∧ 0 ≤ r ∧ 0 ≤ x ∧ x < 2 ^ 31
structure BagOk (m : Mu) : Prop where
  ex : ∃ o, m[0]? = some o ∧ BagO o
theorem belows_ints (n : Nat) : ∀ xs : List Int, belows n (xs.map .int) = true
  | [] => rfl
  | x :: xs => by simp [belows, below, belows_ints n xs]
theorem BagO.below {o : Mo} (h : BagO o) (n : Nat) : o.below n = true := by
  obtain ⟨cells, i, r, x, rfl, _⟩ := h.ex
  simp [bagO, Mo.below, belows, DL.below, belows_ints]
structure Bgs (m m' : Mu) : Prop where
  ex : ∃ o, m' = m.set 0 o ∧ BagO o
theorem Bgs.trans {m m' m'' : Mu} (h : Bgs m m') (k : Bgs m' m'') : Bgs m m'' := by
  obtain ⟨o, rfl, _⟩ := h.ex
  obtain ⟨o', rfl, hb⟩ := k.ex
  exact ⟨o', by simp, hb⟩
theorem BagOk.set {m : Mu} (h : BagOk m) {o : Mo} (b : BagO o) : BagOk (m.set 0 o) := by
  obtain ⟨o', h1, _⟩ := h.ex
  refine ⟨o, ?_, b⟩
  cases m with
  | nil => simp at h1
  | cons a t => rfl
theorem Bgs.bag {m m' : Mu} (h : Bgs m m') (b : BagOk m) : BagOk m' := by
  obtain ⟨o, rfl, hb⟩ := h.ex
  exact b.set hb
theorem Bgs.cl {m m' : Mu} (h : Bgs m m') (k : Cl m) : Cl m' := by
  obtain ⟨o, rfl, hb⟩ := h.ex
  intro q hq
  rw [List.length_set]
  rcases List.mem_or_eq_of_mem_set hq with z | z
  · exact k q z
  · subst z; exact hb.below _
theorem Bgs.get {m m' : Mu} (h : Bgs m m') (k : Nat) : m'[k + 1]? = m[k + 1]? := by
  obtain ⟨o, rfl, _⟩ := h.ex
  simp
theorem bagO_mk {cells : List Int} {i r x : Int} (h1 : 0 ≤ i) (h2 : 0 ≤ r) (h3 : 0 ≤ x) (h4 : x < 2 ^ 31) : BagO (bagO cells i r x) := ⟨cells, i, r, x, rfl, h1, h2, h3, h4⟩
theorem mod_b {a n : Int} (h : 0 < n) : 0 ≤ a % n ∧ a % n < n := ⟨Int.emod_nonneg _ (by omega), Int.emod_lt_of_pos _ h⟩
theorem mulOk_m {a n k : Int} (h : 0 < n) (h2 : n < 2 ^ 100) (h3 : 0 ≤ k) (h4 : k < 2 ^ 100) : mulOk (a % n) k = true := by
  have := mod_b (a := a) h
  exact mulOk_lt (by omega) (by omega) (by omega) (by omega)
theorem fdiv_nn {a n : Int} (h : 0 ≤ a) (hn : 0 < n) : 0 ≤ a.fdiv n := by
  rw [Int.fdiv_eq_ediv_of_nonneg _ (by omega)]
  exact Int.ediv_nonneg h (by omega)
theorem take_ex (c : Cs) {m : Mu} (hb : BagOk m) {n : Int} (hn : 0 < n) (hl : n < 2 ^ 200) :
    ∃ v o, F_w_take c [.loc 0, .int n] m = .ok (.int v) (m.set 0 o) ∧ 0 ≤ v ∧ v < n ∧ BagO o := by
  obtain ⟨o, h1, hb⟩ := hb.ex
  obtain ⟨cells, i, r, x, rfl, hi, hr, hx, hx2⟩ := hb.ex
  cases m with
  | nil => simp at h1
  | cons a t =>
  simp at h1
  subst h1
  have hd : ∀ r, divOk r n = true := fun r => divOk_of (by omega) (by have := int_log (i := n) (k := 200) (by omega) (by omega) (by decide); omega)
  have hd53 : ∀ r, divOk r 53 = true := fun r => divOk_of (by omega) (by decide)
  have hm7 : ∀ z : Int, mulOk (z % 7907) 179 = true := fun z => mulOk_m (by omega) (by omega) (by omega) (by omega)
  have hm1 : ∀ x : Int, 0 ≤ x → x < 2 ^ 31 → mulOk x 36919 = true := fun x h h2 => mulOk_lt (by omega) (by omega) (by omega) (by omega)
  have hm2 : ∀ x : Int, 0 ≤ x → x < 2 ^ 31 → mulOk x x = true := fun x h h2 => mulOk_lt (by omega) (by omega) (by omega) (by omega)
  have hm3 : ∀ x : Int, 0 ≤ x → x < 2 ^ 31 → mulOk x 29423 = true := fun x h h2 => mulOk_lt (by omega) (by omega) (by omega) (by omega)
  have hm4 : ∀ z : Int, mulOk (z % 2147483563) 7919 = true := fun z => mulOk_m (by omega) (by omega) (by omega) (by omega)
  have m7 : ∀ z : Int, 0 ≤ z % 2147483647 ∧ z % 2147483647 < 2 ^ 31 := fun z => by have := mod_b (a := z) (n := 2147483647) (by decide); omega
  have m8 : ∀ z : Int, 0 ≤ z % 2147483629 ∧ z % 2147483629 < 2 ^ 31 := fun z => by have := mod_b (a := z) (n := 2147483629) (by decide); omega
  have mn : ∀ z : Int, 0 ≤ z % n ∧ z % n < n := fun z => mod_b hn
  by_cases hc : r = 0 ∧ i < cells.length
  · obtain ⟨rfl, hi2⟩ := hc
    obtain ⟨j, rfl⟩ := Int.eq_ofNat_of_zero_le hi
    have hj : j < cells.length := by omega
    generalize hw : (if cells[j] < 0 then -cells[j] else cells[j]) = w
    have hw0 : 0 ≤ w := by subst hw; split <;> omega
    by_cases h18 : 1000000000000000000 ≤ w
    · have hp : 0 < w := by omega
      refine ⟨w % n, bagO cells (↑j + 1) (w.fdiv n) x, ?_, (mn w).1, (mn w).2, bagO_mk (by omega) (fdiv_nn hw0 hn) hx hx2⟩
      simp [F_w_take, env0, bagO, hj, hw, h18, hp, hd, hn]
    · generalize hR : F_w_take c _ _ = R
      simp [F_w_take, env0, bagO, hj, hw, h18, hm1 x hx hx2, hm4, hm2 _ (m8 _).1 (m8 _).2, hm3 _ (m8 _).1 (m8 _).2, hd53, hm7, hn] at hR
      subst hR
      exact ⟨_, bagO cells (↑j + 1) 0 _, rfl, (mn _).1, (mn _).2, bagO_mk (by omega) (by omega) (m7 _).1 (m7 _).2⟩
  · by_cases hr0 : 0 < r
    · refine ⟨r % n, bagO cells i (r.fdiv n) x, ?_, (mn _).1, (mn _).2, bagO_mk hi (fdiv_nn hr hn) hx hx2⟩
      have : ¬ r = 0 := by omega
      simp [F_w_take, env0, bagO, hr0, hd, hn, this]
    · have : r = 0 := by omega
      subst this
      have hi2 : ¬ i < cells.length := fun h => hc ⟨rfl, h⟩
      generalize hR : F_w_take c _ _ = R
      simp [F_w_take, env0, bagO, hi2, hm2 x hx hx2, hm3 x hx hx2, hd53, hm7, hn] at hR
      subst hR
      exact ⟨_, bagO cells i 0 _, rfl, (mn _).1, (mn _).2, bagO_mk hi (by omega) (m7 _).1 (m7 _).2⟩
theorem take_ok (c : Cs) {m : Mu} (hb : BagOk m) {n : Int} (hn : 0 < n) (hl : n < 2 ^ 200) :
    ∃ v m', F_w_take c [.loc 0, .int n] m = .ok (.int v) m' ∧ 0 ≤ v ∧ v < n ∧ Bgs m m' := by
  obtain ⟨v, o, h1, h2, h3, h4⟩ := take_ex c hb hn hl
  exact ⟨v, _, h1, h2, h3, ⟨o, rfl, h4⟩⟩
theorem one_ok (c : Cs) {m : Mu} (hb : BagOk m) {ds : List D} (h0 : ds ≠ []) (hl : ds.length < 1000000) :
    ∃ d m', F_w_one c [.loc 0, .lst ds] m = .ok d m' ∧ d ∈ ds ∧ Bgs m m' := by
  have hp : 0 < ds.length := List.length_pos_iff.mpr h0
  obtain ⟨v, m', e, h1, h2, h3⟩ := take_ok c hb (n := ds.length) (by omega) (by omega)
  obtain ⟨j, rfl⟩ := Int.eq_ofNat_of_zero_le h1
  have hj : j < ds.length := by omega
  refine ⟨ds[j], m', ?_, List.getElem_mem hj, h3⟩
  simp [F_w_one, env0, e, hj]
theorem gcd_step (a b : Nat) : Nat.gcd b (a % b) = Nat.gcd a b := by rw [Nat.gcd_comm b, ← Nat.gcd_rec, Nat.gcd_comm]
theorem divisor_while (c : Cs) (m : Mu) : ∀ (k a b : Nat), b < k → whileF (T_w_divisor_1 c) (B_w_divisor_1 c) k [some (.int a), some (.int b)] m = .nx [some (.int (Nat.gcd a b)), some (.int 0)] m
  | 0, a, b, h => by omega
  | k + 1, a, b, h => by
    unfold whileF
    by_cases hb : b = 0
    · subst hb; simp [T_w_divisor_1_ap]
    · have hb' : 0 < b := by omega
      have hm := Nat.mod_lt a hb'
      have ih := divisor_while c m k b (a % b) (by omega)
      rw [Int.natCast_emod, gcd_step] at ih
      simp [T_w_divisor_1_ap, B_w_divisor_1_ap, hb', ih]
theorem divisor_ok (c : Cs) (a b : Int) (ha : 0 ≤ a) (hb : 0 ≤ b) (m : Mu) : F_w_divisor c [.int a, .int b] m = .ok (.int (Int.gcd a b)) m := by
  obtain ⟨j, rfl⟩ := Int.eq_ofNat_of_zero_le ha
  obtain ⟨k, rfl⟩ := Int.eq_ofNat_of_zero_le hb
  have h := dWhile_eq (divisor_while c m (k + 1) j k (by omega)) (by simp)
  simp [F_w_divisor, env0, h, Int.gcd]
theorem common_while (c : Cs) (m : Mu) : ∀ (k a b : Nat), b < k → whileF (T_common_divisor_1 c) (B_common_divisor_1 c) k [some (.int a), some (.int b)] m = .nx [some (.int (Nat.gcd a b)), some (.int 0)] m
  | 0, a, b, h => by omega
  | k + 1, a, b, h => by
    unfold whileF
    by_cases hb : b = 0
    · subst hb; simp [T_common_divisor_1_ap]
    · have hb' : 0 < b := by omega
      have hm := Nat.mod_lt a hb'
      have ih := common_while c m k b (a % b) (by omega)
      rw [Int.natCast_emod, gcd_step] at ih
      simp [T_common_divisor_1_ap, B_common_divisor_1_ap, hb', ih, hb]
theorem common_ok (c : Cs) (a b : Int) (ha : 0 ≤ a) (hb : 0 ≤ b) (m : Mu) : F_common_divisor c [.int a, .int b] m = .ok (.int (Int.gcd a b)) m := by
  obtain ⟨j, rfl⟩ := Int.eq_ofNat_of_zero_le ha
  obtain ⟨k, rfl⟩ := Int.eq_ofNat_of_zero_le hb
  have h := dWhile_eq (common_while c m (k + 1) j k (by omega)) (by simp)
  simp [F_common_divisor, env0, h, Int.gcd]
def fr (q : Rat) : D := .tup [.int q.num, .int q.den]
theorem abs_gcd (a b : Int) : Int.gcd (if a < 0 then -a else a) (if b < 0 then -b else b) = Int.gcd a b := by
  unfold Int.gcd
  congr 1 <;> split <;> omega
theorem abs_nn (a : Int) : 0 ≤ (if a < 0 then -a else a) := by split <;> omega
def sg (a b : Int) : Int := if 0 < b then (Int.gcd a b : Int) else -(Int.gcd a b : Int)
theorem sg_ne (a : Int) {b : Int} (hb : b ≠ 0) : sg a b ≠ 0 := by
  unfold sg
  have : Int.gcd a b ≠ 0 := by rw [Ne, Int.gcd_eq_zero_iff]; omega
  split <;> omega
theorem sg_num (a : Int) {b : Int} (hb : b ≠ 0) : a.fdiv (sg a b) = (Rat.divInt a b).num := by
  rw [Rat.num_divInt, Int.gcd_comm b a]
  unfold sg
  have hg : (Int.gcd a b : Int) ∣ a := Int.gcd_dvd_left ..
  obtain ⟨k, hk⟩ := hg
  have h0 : (Int.gcd a b : Int) ≠ 0 := by have : Int.gcd a b ≠ 0 := by rw [Ne, Int.gcd_eq_zero_iff]; omega
                                          omega
  generalize (Int.gcd a b : Int) = g at *
  subst hk
  by_cases h : 0 < b
  · rw [if_pos h, Int.sign_eq_one_of_pos h, Int.one_mul, Int.mul_fdiv_cancel_left _ h0, Int.mul_ediv_cancel_left _ h0]
  · rw [if_neg h, Int.sign_eq_neg_one_of_neg (by omega), Int.neg_one_mul, ← Int.mul_neg, Int.mul_ediv_cancel_left _ h0, ← Int.neg_mul_neg, Int.mul_fdiv_cancel_left _ (by omega)]
theorem sg_den (a : Int) {b : Int} (hb : b ≠ 0) : b.fdiv (sg a b) = (Rat.divInt a b).den := by
  rw [Rat.den_divInt, if_neg hb, Int.gcd_comm b a]
  unfold sg
  have hg : (Int.gcd a b : Int) ∣ b := Int.gcd_dvd_right ..
  have h0 : Int.gcd a b ≠ 0 := by rw [Ne, Int.gcd_eq_zero_iff]; omega
  generalize Int.gcd a b = g at *
  have h0' : (g : Int) ≠ 0 := by omega
  obtain ⟨k, hk⟩ := hg
  subst hk
  have e : ((g : Int) * k).natAbs = g * k.natAbs := by rw [Int.natAbs_mul]; simp
  rw [e, Nat.mul_div_cancel_left _ (by omega)]
  by_cases h : 0 < (g : Int) * k
  · rw [if_pos h, Int.mul_fdiv_cancel_left _ h0']
    have : 0 < k := Int.pos_of_mul_pos_right h (by omega)
    omega
  · rw [if_neg h, ← Int.neg_mul_neg, Int.mul_fdiv_cancel_left _ (by omega)]
    have : ¬ 0 < k := fun z => h (Int.mul_pos (by omega) z)
    omega
theorem gcd_log (a : Int) {b : Int} (hb : b ≠ 0) : (Int.gcd a b).log2 ≤ b.natAbs.log2 := by
  have h : Int.gcd a b ≤ b.natAbs := Nat.le_of_dvd (by omega) (Int.gcd_dvd_natAbs_right a b)
  have h0 : Int.gcd a b ≠ 0 := by rw [Ne, Int.gcd_eq_zero_iff]; omega
  exact (Nat.le_log2 (by omega)).mpr (Nat.le_trans (Nat.log2_self_le h0) h)
theorem sg_log (a : Int) {b : Int} (hb : b ≠ 0) : (sg a b).natAbs.log2 ≤ b.natAbs.log2 := by
  have := gcd_log a hb
  unfold sg; split <;> simpa using this
theorem frac_ok (c : Cs) (a : Int) {b : Int} (hb : b ≠ 0) (hl : b.natAbs.log2 < 9000) (m : Mu) : F_w_frac c [.int a, .int b] m = .ok (fr (Rat.divInt a b)) m := by
  have h := divisor_ok c _ _ (abs_nn a) (abs_nn b) m
  rw [abs_gcd] at h
  have hd : ∀ z, divOk z (sg a b) = true := fun z => divOk_of (sg_ne a hb) (by have := sg_log a hb; omega)
  have hs : sizeLine = 16777216 := rfl
  by_cases h0 : 0 < b
  · have e : ((Int.gcd a b : Nat) : Int) = sg a b := by unfold sg; rw [if_pos h0]
    rw [e] at h
    simp [F_w_frac, env0, h, h0, hd, hs, sg_num a hb, sg_den a hb, fr]
  · have e : ((Int.gcd a b : Nat) : Int) = - sg a b := by unfold sg; rw [if_neg h0]; omega
    rw [e] at h
    simp [F_w_frac, env0, h, h0, hd, hs, sg_num a hb, sg_den a hb, fr]
@[simp ↓] theorem dMake_ap (C : Addr) (G : DFn) (t : DA) (e : En) (m : Mu) : dMake C G t e m = match t e m with
  | .stuck => .stuck
  | .ok ds m1 => mkObj C m1 (G (.loc m1.length :: ds) (m1 ++ [.ins C []]))
  | .exc C fs m1 => .exc C fs m1 := by
  unfold dMake
  cases t e m <;> rfl
@[simp] theorem set_last {α : Type} (m : List α) (x y : α) : (m ++ [x]).set m.length y = m ++ [y] := by
  rw [List.set_append_right _ _ (Nat.le_refl _), Nat.sub_self]; rfl
@[simp] theorem get_last {α : Type} (m : List α) (x : α) : (m ++ [x])[m.length]? = some x := by simp
def rat (c : Cs) (q : Rat) : D := .obj c.kRatio [.int q.num, .int q.den]
theorem whole_int (c : Cs) (a : Int) (m : Mu) : F_is_whole c [.int a] m = .ok (.bl true) m := by
  simp [F_is_whole, env0, ans_bool, ans_int, tagOf, Ans.get, primNames]
theorem init_ok (c : Cs) (a : Int) {b : Int} (hb : b ≠ 0) (hl : b.natAbs.log2 < 9000) (m : Mu) :
    F_RatioD_initD c [.loc m.length, .int a, .int b] (m ++ [.ins c.cRatio []]) = .ok .non (m ++ [.ins c.cRatio [("own_top", .int (Rat.divInt a b).num), ("own_bottom", .int (Rat.divInt a b).den)]]) := by
  have h := common_ok c _ _ (abs_nn a) (abs_nn b) (m ++ [.ins c.cRatio []])
  rw [abs_gcd] at h
  have hd : ∀ z, divOk z (sg a b) = true := fun z => divOk_of (sg_ne a hb) (by have := sg_log a hb; omega)
  have hk : (("own_top" : Str) = "own_bottom") = False := by simp; decide +kernel
  by_cases h0 : b < 0
  · have e : ((Int.gcd a b : Nat) : Int) = - sg a b := by unfold sg; rw [if_neg (by omega)]; omega
    rw [e] at h
    simp only [h0, if_true, if_false] at h
    simp [F_RatioD_initD, env0, h, h0, hd, sg_num a hb, sg_den a hb, whole_int, hb, putD, hk]
  · have e : ((Int.gcd a b : Nat) : Int) = sg a b := by unfold sg; rw [if_pos (by omega)]
    rw [e] at h
    simp only [h0, if_true, if_false] at h
    simp [F_RatioD_initD, env0, h, h0, hd, sg_num a hb, sg_den a hb, whole_int, hb, putD, hk]
theorem mk_ratio (c : Cs) (a : Int) {b : Int} (hb : b ≠ 0) (hl : b.natAbs.log2 < 9000) {m : Mu} (hm : Cl m) :
    mkObj c.cRatio m (F_RatioD_initD c [.loc m.length, .int a, .int b] (m ++ [.ins c.cRatio []])) = .ok (rat c (Rat.divInt a b)) m := by
  rw [init_ok c a hb hl]
  simp [mkObj, hm, belows, below, rat, nsRatio]
theorem like_zip (c : Cs) (n : Nat) (e : En) (m : Mu) (he : e.length = 4) (ds : List D) (hl : ds.length ≤ sizeLine) (h : ∀ d ∈ ds, F_w_like c n [d, d] m = .ok (.bl true) m) :
    dCompL (dTupG 2 (dGcons (dName 2) (dGcons (dName 3) dGnil))) dYes (dFun (padF 2 [] (F_w_like c n)) (dCons (dVar 2) (dCons (dVar 3) dNil))) e (ds.map fun a => .tup [a, a]) m [] = .ok (List.replicate ds.length (.bl true)) m := by
  match e, he with
  | [a, b, x, y], _ =>
  rw [dCompL_map (fun _ => .bl true)]
  · rw [List.map_map, show [] ++ List.map ((fun x => D.bl true) ∘ fun a => D.tup [a, a]) ds = List.replicate ds.length (D.bl true) from List.eq_replicate_iff.mpr ⟨by simp, by simp⟩]
  · intro d hd
    obtain ⟨z, hz, rfl⟩ := List.mem_map.mp hd
    refine ⟨[a, b, some z, some z], by simp, by simp, by simp [h z hz]⟩
  · simpa using hl
theorem like_refl (c : Cs) (m : Mu) : ∀ (n : Nat) (d : D), plainD n d → F_w_like c n [d, d] m = .ok (.bl true) m
  | 0, _, h => h.elim
  | n + 1, .non, _ => by simp [F_w_like, env0, gIsN]
  | n + 1, .bl _, _ => by simp [F_w_like, env0, gIsN, ans_bool, ans_bool__Ratio, ans_int, ans_int__Ratio, ans_list, ans_list__Ratio, ans_list_tuple, ans_str, ans_str__Ratio, ans_tuple, ans_tuple__Ratio, dOwnEq, insOf, tagOf, Ans.get, primNames]
  | n + 1, .int _, _ => by simp [F_w_like, env0, gIsN, ans_bool, ans_bool__Ratio, ans_int, ans_int__Ratio, ans_list, ans_list__Ratio, ans_list_tuple, ans_str, ans_str__Ratio, ans_tuple, ans_tuple__Ratio, dOwnEq, insOf, tagOf, Ans.get, primNames]
  | n + 1, .str _, _ => by simp [F_w_like, env0, gIsN, ans_bool, ans_bool__Ratio, ans_int, ans_int__Ratio, ans_list, ans_list__Ratio, ans_list_tuple, ans_str, ans_str__Ratio, ans_tuple, ans_tuple__Ratio, dOwnEq, insOf, tagOf, Ans.get, primNames]
  | n + 1, .tup ds, h => by
    have z := like_zip c n [some (.tup ds), some (.tup ds), none, none] m rfl ds h.1 fun d hd => like_refl c m n d (h.2 d hd)
    simp [F_w_like, env0, gIsN, ans_bool, ans_bool__Ratio, ans_int, ans_int__Ratio, ans_list, ans_list__Ratio, ans_list_tuple, ans_str, ans_str__Ratio, ans_tuple, ans_tuple__Ratio, dOwnEq, insOf, tagOf, Ans.get, primNames, z, toBs_trues]
  | n + 1, .lst ds, h => by
    have z := like_zip c n [some (.lst ds), some (.lst ds), none, none] m rfl ds h.1 fun d hd => like_refl c m n d (h.2 d hd)
    simp [F_w_like, env0, gIsN, ans_bool, ans_bool__Ratio, ans_int, ans_int__Ratio, ans_list, ans_list__Ratio, ans_list_tuple, ans_str, ans_str__Ratio, ans_tuple, ans_tuple__Ratio, dOwnEq, insOf, tagOf, Ans.get, primNames, z, toBs_trues]
theorem dpos (q : Rat) : (0 : Int) < q.den := by have := q.den_pos; omega
theorem dne (q : Rat) : (q.den : Int) ≠ 0 := by have := dpos q; omega
theorem sub_di (q r : Rat) : Rat.divInt (q.num * r.den - r.num * q.den) (q.den * r.den) = q - r := by
  rw [← Rat.divInt_sub_divInt _ _ (dne q) (dne r), Rat.num_divInt_den, Rat.num_divInt_den]
def mom (q : Rat) : Rat := q - (q.floor : Rat)
theorem mom_di (q : Rat) : Rat.divInt (q.num % q.den) q.den = mom q := by
  unfold mom
  have h : q.num % (q.den : Int) = q.num - q.den * q.floor := by rw [Rat.floor_def, Int.emod_def]
  rw [h]
  have e := sub_di q (q.floor : Rat)
  simp only [Rat.den_intCast, Rat.num_intCast] at e
  rw [← e]
  congr 1
  · rw [Int.mul_comm (q.den : Int)]; simp
  · simp
def aw (q : Rat) : Rat := if 1 - mom q < mom q then 1 - mom q else mom q
def Bi (k : Nat) (a : Int) : Prop := a.natAbs < 2 ^ k
structure Sz (k : Nat) (q : Rat) : Prop where
  n : Bi k q.num
  d : q.den < 2 ^ k
theorem Bi.emod {k : Nat} {b : Int} (a : Int) (h : Bi k b) (h0 : b ≠ 0) : Bi k (a % b) := by
  unfold Bi at *
  have h1 := Int.emod_nonneg a h0
  have h2 := Int.emod_lt a h0
  omega
theorem Bi.log {k : Nat} {a : Int} (h : Bi k a) : a.natAbs.log2 ≤ k := log_le (Nat.le_of_lt h)
theorem Bi.lit {k : Nat} {a : Int} (h : decide (a.natAbs < 2 ^ k) = true) : Bi k a := by unfold Bi; exact of_decide_eq_true h
theorem Bi.lt {k : Nat} {a : Int} (h1 : -(2 ^ k : Nat) < a) (h2 : a < (2 ^ k : Nat)) : Bi k a := by unfold Bi; omega
theorem Sz.bd {k : Nat} {q : Rat} (h : Sz k q) : Bi k q.den := by have := h.d; unfold Bi; simpa using this
theorem mul_Bi {j k : Nat} {a b : Int} (h : Bi j a) (h' : Bi k b) (hk : j + k < 1000000) : mulOk a b = true := mulOk_of (by have := h.log; have := h'.log; omega)
theorem dd {j k : Nat} {q r : Rat} (h : Sz j q) (h' : Sz k r) (hk : j + k < 1000000 := by decide) : mulOk q.den r.den = true := mul_Bi h.bd h'.bd hk
theorem Sz.di {k : Nat} {a b : Int} (h : Bi k a) (h' : Bi k b) (hb : b ≠ 0) : Sz k (Rat.divInt a b) := by
  constructor
  · unfold Bi
    rw [Rat.num_divInt]
    have : (b.sign * a / (b.gcd a : Int)).natAbs ≤ a.natAbs := by
      have h1 : (b.sign * a).natAbs = a.natAbs := by rw [Int.natAbs_mul, Int.natAbs_sign_of_ne_zero hb, Nat.one_mul]
      rw [← h1]
      exact Int.natAbs_ediv_le_natAbs _ _
    exact Nat.lt_of_le_of_lt this h
  · rw [Rat.den_divInt, if_neg hb]
    exact Nat.lt_of_le_of_lt (Nat.div_le_self _ _) h'
theorem Sz.mom {j : Nat} {q : Rat} (h : Sz j q) : Sz j (mom q) := by
  rw [← mom_di]
  exact Sz.di (h.bd.emod _ (dne q)) h.bd (dne q)
theorem Sz.int {j : Nat} {k : Int} (h : Bi j k) (hj : 0 < j) : Sz j (k : Rat) := ⟨by simpa using h, by simpa using Nat.one_lt_two_pow (by omega)⟩
@[simp ↓] theorem gMul_rat (c : Cs) (q : Rat) (y : D) (m : Mu) : gMul (rat c q) y m = .stuck := rfl
@[simp ↓] theorem gAdd_rat (c : Cs) (q : Rat) (y : D) (m : Mu) : gAdd (rat c q) y m = .stuck := rfl
@[simp ↓] theorem gSub_rat (c : Cs) (q : Rat) (y : D) (m : Mu) : gSub (rat c q) y m = .stuck := rfl
@[simp] theorem insOf_rat (m : Mu) (c : Cs) (q : Rat) : insOf m (rat c q) = some (c.cRatio, nsRatio, [.int q.num, .int q.den]) := rfl
@[simp] theorem kRatio_a (c : Cs) : (c.kRatio).a = c.cRatio := rfl
@[simp] theorem kRatio_ns (c : Cs) : (c.kRatio).ns = nsRatio := rfl
@[simp] theorem toV_rat (c : Cs) (q : Rat) (m : Mu) : tagOf m (rat c q) = some (.own c.cRatio) := rfl
theorem top_ok (c : Cs) (q : Rat) (m : Mu) : F_Ratio_top c [rat c q] m = .ok (.int q.num) m := by simp [F_Ratio_top, env0]
theorem bottom_ok (c : Cs) (q : Rat) (m : Mu) : F_Ratio_bottom c [rat c q] m = .ok (.int q.den) m := by simp [F_Ratio_bottom, env0]
theorem rmk (c : Cs) {k : Nat} {a b : Int} {m : Mu} (hb : b ≠ 0) (hl : Bi k b) (hk : k < 9000) (hm : Cl m) :
    mkObj c.cRatio m (F_RatioD_initD c [.loc m.length, .int a, .int b] (m ++ [.ins c.cRatio []])) = .ok (rat c (Rat.divInt a b)) m := mk_ratio c a hb (by have := hl.log; omega) hm
theorem rmk1 (c : Cs) {k : Nat} {a : Int} {m : Mu} (hm : Cl m) :
    mkObj c.cRatio m (F_RatioD_initD c [.loc m.length, .int a, .int 1] (m ++ [.ins c.cRatio []])) = .ok (rat c (a : Rat)) m := by
  rw [rmk c (k := 1) (by decide) (by unfold Bi; decide) (by decide) hm]
  congr 2
  rw [Rat.divInt_eq_div]; simp only [Rat.intCast_one]; grind
theorem parts_ok (c : Cs) (q : Rat) (m : Mu) : F_w_parts c [rat c q] m = .ok (fr q) m := by
  have hs : sizeLine = 16777216 := rfl
  simp [F_w_parts, env0, ans_Ratio__Ratio, Ans.get, top_ok, bottom_ok, hs, fr]
theorem fracR (c : Cs) {k : Nat} {a b : Int} (hb : b ≠ 0) (hl : Bi k b) (hk : k < 9000) (m : Mu) : F_w_frac c [.int a, .int b] m = .ok (fr (Rat.divInt a b)) m := frac_ok c a hb (by have := hl.log; omega) m
theorem any_frac_ok (c : Cs) {m : Mu} (hb : BagOk m) : ∃ q m', F_w_any_frac c [.loc 0] m = .ok (fr q) m' ∧ Sz 100 q ∧ Bgs m m' := by
  have hs : sizeLine = 16777216 := rfl
  obtain ⟨d1, m1, e1, h1, g1⟩ := one_ok c hb (ds := [.int 1, .int 4, .int 12, .int 1000, .int 1000000000000000000]) (by simp) (by simp)
  obtain ⟨n1, rfl, p1, l1⟩ : ∃ n : Int, d1 = .int n ∧ 0 < n ∧ n < 2 ^ 62 := by
    simp at h1
    rcases h1 with rfl | rfl | rfl | rfl | rfl <;> exact ⟨_, rfl, by decide, by decide⟩
  have b1 := g1.bag hb
  obtain ⟨v2, m2, e2, p2, l2, g2⟩ := take_ok c b1 (n := n1) p1 (by omega)
  have b2 := g2.bag b1
  obtain ⟨d3, m3, e3, h3, g3⟩ := one_ok c b2 (ds := [.int 2, .int 7, .int (3 * (1 + v2) + 1), .int 10000000000000000000]) (by simp) (by simp)
  obtain ⟨n3, rfl, p3, l3⟩ : ∃ n : Int, d3 = .int n ∧ 0 < n ∧ n < 2 ^ 70 := by
    simp at h3
    rcases h3 with rfl | rfl | rfl | rfl <;> exact ⟨_, rfl, by omega, by omega⟩
  have b3 := g3.bag b2
  obtain ⟨v4, m4, e4, p4, l4, g4⟩ := take_ok c b3 (n := n3) p3 (by omega)
  have b4 := g4.bag b3
  obtain ⟨d5, m5, e5, h5, g5⟩ := one_ok c b4 (ds := [.int v4, .int v4, .int (0 - v4)]) (by simp) (by simp)
  obtain ⟨n5, rfl, p5, l5⟩ : ∃ n : Int, d5 = .int n ∧ -(2 ^ 70) < n ∧ n < 2 ^ 70 := by
    simp at h5
    rcases h5 with rfl | rfl <;> exact ⟨_, rfl, by omega, by omega⟩
  have hb2 : Bi 100 (1 + v2) := Bi.lt (by omega) (by omega)
  have hm : mulOk 3 (1 + v2) = true := mul_Bi (Bi.lit (k := 2) (by decide)) hb2 (by omega)
  have ef := fracR c (a := n5) (b := 1 + v2) (by omega) hb2 (by omega) m5
  refine ⟨Rat.divInt n5 (1 + v2), m5, ?_, Sz.di (Bi.lt (by omega) (by omega)) hb2 (by omega), (((g1.trans g2).trans g3).trans g4).trans g5⟩
  simp at e5
  simp [F_w_any_frac, env0, hs, e1, e2, e3, e4, e5, hm, ef]
theorem begin_ok (c : Cs) (ns : List Int) (hl : ns.length ≤ 63) : ∃ m, F_w_begin c [.lst (ns.map .int)] [] = .ok (.loc 0) m ∧ BagOk m ∧ Cl m := by
  have hs : sizeLine = 16777216 := rfl
  have hx : cutD (ns.map .int) none (some 63) = (ns.take 63).map D.int := by
    simp [cutD, HT.sIx]
  have hm : ∀ k : Nat, k ≤ 63 → mulOk 17 k = true := fun k hk => mulOk_lt (by omega) (by omega) (by omega) (by omega)
  have hm2 := hm (min 63 ns.length) (by omega)
  have hB : BagO (bagO (ns.take 63) 0 0 (100050 + 17 * (min 63 ns.length : Nat))) := bagO_mk (by omega) (by omega) (by omega) (by omega)
  refine ⟨[bagO (ns.take 63) 0 0 (100050 + 17 * (min 63 ns.length : Nat))], ?_, ⟨_, rfl, hB⟩, ?_⟩
  · simp [F_w_begin, env0, hx, hs, hm2, bagO]
  · intro o ho
    simp at ho
    subst ho
    exact hB.below _
@[simp ↓] theorem dCompL_cons (g : DG) (c : DT) (b : DE) (e : En) (d : D) (ds : List D) (m : Mu) (acc : List D) : dCompL g c b e (d :: ds) m acc = match g d e with
    | none => .stuck
    | some e1 => match c e1 m with
      | .ok true m1 => match b e1 m1 with
        | .ok x m2 => if acc.length < sizeLine then dCompL g c b e ds m2 (acc ++ [x]) else .stuck
        | _ => .stuck
      | .ok false m1 => dCompL g c b e ds m1 acc
      | _ => .stuck := rfl
def itxt (i : Int) : Str := Str.ofString i.repr
def wtxt (q : Rat) : Str := if q.den = 1 then itxt q.num else itxt q.num ++ "/" ++ itxt q.den
theorem itxt_len {k : Nat} {i : Int} (h : Bi k i) (hk : k < 1900) : (itxt i).length ≤ 2000 := by
  have e := int_text_length_le (a := i) (k := 1900) (by decide) (by have := h.log; omega)
  unfold itxt
  rw [ofString_length]
  have e : i.repr.length ≤ 1900 + 1 := e
  omega
theorem slash_len : (Str.ofString "/").length = 1 := by decide +kernel
theorem rstr_ok (c : Cs) {k : Nat} {q : Rat} (h : Sz k q) (m : Mu) (hk : k < 1900 := by decide) : F_RatioD_strD c [rat c q] m = .ok (.str (wtxt q)) m := by
  have hs : sizeLine = 16777216 := rfl
  have l1 : q.num.natAbs.log2 < 1920 := by have := h.n.log; omega
  have l2 : (q.den : Int).natAbs.log2 < 1920 := by have := h.bd.log; omega
  have l2' : q.den.log2 < 1920 := by simpa using l2
  have z1 := itxt_len h.n hk
  have z2 := itxt_len h.bd hk
  simp only [itxt] at z1 z2
  by_cases hd : q.den = 1
  · have hd' : (q.den : Int) = 1 := by omega
    simp [F_RatioD_strD, env0, hd, hd', l1, wtxt, itxt]
  · have hd' : ¬ (q.den : Int) = 1 := by omega
    have z3 : (Str.ofString q.num.repr).length ≤ 16777216 := by omega
    have z4 : (Str.ofString q.num.repr).length ≤ 16777215 := by omega
    have z5 : (Str.ofString q.num.repr).length + 1 + (Str.ofString (q.den : Int).repr).length ≤ 16777216 := by omega
    simp [F_RatioD_strD, env0, hd, hd', l1, l2', wtxt, itxt, Str.empty_append, Str.length_append, slash_len, hs, z3, z4, z5]
theorem word_ok (c : Cs) {k : Nat} {a b : Int} (ha : Bi k a) (hb : Bi k b) (h0 : b ≠ 0) (m : Mu) (hk : k < 1900 := by decide) : F_w_word c [.int a, .int b] m = .ok (.str (wtxt (Rat.divInt a b))) m := by
  have hs : sizeLine = 16777216 := rfl
  have e := fracR c (a := a) h0 hb (by omega) m
  have h := Sz.di ha hb h0
  generalize Rat.divInt a b = q at *
  have l1 : q.num.natAbs.log2 < 1920 := by have := h.n.log; omega
  have l2 : (q.den : Int).natAbs.log2 < 1920 := by have := h.bd.log; omega
  have l2' : q.den.log2 < 1920 := by simpa using l2
  have z1 := itxt_len h.n hk
  have z2 := itxt_len h.bd hk
  simp only [itxt, fr] at z1 z2 e
  by_cases hd : q.den = 1
  · have hd' : (q.den : Int) = 1 := by omega
    simp [F_w_word, env0, e, hd, hd', l1, wtxt, itxt]
  · have hd' : ¬ (q.den : Int) = 1 := by omega
    have z4 : (Str.ofString q.num.repr).length ≤ 16777215 := by omega
    have z5 : (Str.ofString q.num.repr).length + 1 + (Str.ofString (q.den : Int).repr).length ≤ 16777216 := by omega
    simp [F_w_word, env0, e, hd, hd', l1, l2', wtxt, itxt, Str.length_append, slash_len, hs, z4, z5]
def Low (x : Str) : Prop := ∀ ch ∈ x.cps.toList, 97 ≤ ch ∧ ch ≤ 122
structure Good (x : Str) : Prop where
  lo : 1 ≤ x.length
  hi : x.length ≤ 8
  low : Low x
inductive Two (P : D → D → Prop) : List D → List D → Prop
  | nil : Two P [] []
  | cons {d x : D} {ds xs : List D} : P d x → Two P ds xs → Two P (d :: ds) (x :: xs)
theorem Two.all {P : D → D → Prop} {Q : D → Prop} : ∀ {ds xs : List D}, Two P ds xs → (∀ d x, P d x → Q x) → ∀ x ∈ xs, Q x
  | _, _, .nil, _, _, h => nomatch h
  | _, _, .cons p t, f, x, h => by
    rcases List.mem_cons.mp h with e | e
    · subst e; exact f _ _ p
    · exact Two.all t f x e
structure Row where
  nm : Str
  s : Int
  o : Int
  b : Int
def rowD (r : Row) : D := .tup [.str r.nm, .int r.s, .int r.o, .int r.b]
structure RowOk (P : Int) (r : Row) : Prop where
  nm : Good r.nm
  s0 : 0 < r.s
  s1 : r.s < P
  o0 : 0 ≤ r.o
  o1 : r.o ≤ 3 * P
  b0 : 0 ≤ r.b
  b1 : r.b ≤ 3 * P
structure Lt where
  x : Str
  s : Rat
  o : Rat
  b : Rat
  deriving DecidableEq
theorem inV_str (x : Str) : ∀ xs : List Str, inV (.str x) (xs.map V.str) = decide (x ∈ xs)
  | [] => by simp [inV]
  | y :: xs => by
    have ih := inV_str x xs
    unfold inV at ih ⊢
    rw [List.map_cons, List.any_cons, ih]
    by_cases h : x = y
    · subst h; simp [eqV]
    · have h' : ¬ y = x := fun e => h e.symm
      simp [eqV, h, h']
theorem toVs_strs : ∀ xs : List Str, toVs (xs.map D.str) = some (xs.map V.str)
  | [] => rfl
  | x :: xs => by simp [toVs, toV, toVs_strs xs]
theorem gIn_strs (x : Str) (xs : List Str) (m : Mu) : gIn (.str x) (.lst (xs.map .str)) m = .ok (.bl (decide (x ∈ xs))) m := by
  have e : gInQ false (.str x) (.lst (xs.map .str)) m = .ok (.bl (decide (x ∈ xs))) m := by
    unfold gInQ
    simp only [toV, seqA_lst, Option.bind_some, toVs_strs, inV_str, Bool.false_xor]
  show orD (gInS false) (gInQ false) _ _ m = _
  unfold orD
  rw [show gInS false (.str x) (.lst (xs.map .str)) m = .stuck from rfl]
  exact e
theorem toBs_all {α : Type} (f : α → Bool) : ∀ xs : List α, toBs (xs.map fun x => .bl (f x)) = some (xs.map f)
  | [] => rfl
  | x :: xs => by simp [toBs, toBs_all f xs]
theorem filt_true {α : Type} (xs : List α) : (xs.filter fun _ => true) = xs := by simp
def dst (N a : Int) : Int := if N - a % N < a % N then N - a % N else a % N
theorem dst_nn {N : Int} (h : 0 < N) (a : Int) : 0 ≤ dst N a := by
  unfold dst; have := mod_b (a := a) h; split <;> omega
structure Tops (S T : Lt → Int) (P : Int) (ls : List Lt) (R : Int) : Prop where
  le : ∀ x M : Int, (∀ l ∈ ls, M ≤ 2 * S l - dst (2 * P) (x + 2 * T l)) → M ≤ R
  at_ : ∃ x : Int, ∀ l ∈ ls, R ≤ 2 * S l - dst (2 * P) (x + 2 * T l)
theorem dst_half {N : Int} (h : 0 < N) (a : Int) : 2 * dst N a ≤ N := by
  unfold dst; have := mod_b (a := a) h; split <;> omega
theorem Tops.bd {S T : Lt → Int} {P : Nat} (hP : 0 < P) {ls : List Lt} {R : Int} (h : Tops S T P ls R) (h0 : ∀ l ∈ ls, 0 ≤ S l) : -(P : Int) ≤ R ∧ ∀ l ∈ ls, R ≤ 2 * S l := by
  refine ⟨h.le 0 _ fun l hl => ?_, fun l hl => ?_⟩
  · have := dst_half (N := 2 * P) (by omega) (0 + 2 * T l)
    have := h0 l hl
    omega
  · obtain ⟨x, hx⟩ := h.at_
    have := dst_nn (N := 2 * P) (by omega) (x + 2 * T l)
    have := hx l hl
    omega
@[simp] theorem ix_row0 (r : Row) (m : Mu) : gIx (rowD r) (.int 0) m = .ok (.str r.nm) m := rfl
@[simp] theorem ix_row1 (r : Row) (m : Mu) : gIx (rowD r) (.int 1) m = .ok (.int r.s) m := rfl
@[simp] theorem ix_row2 (r : Row) (m : Mu) : gIx (rowD r) (.int 2) m = .ok (.int r.o) m := rfl
@[simp] theorem ix_row3 (r : Row) (m : Mu) : gIx (rowD r) (.int 3) m = .ok (.int r.b) m := rfl
theorem dSeq_nx {t u : DS} {e e1 : En} {m m1 : Mu} (h : t e m = .nx e1 m1) : dSeq t u e m = u e1 m1 := by
  unfold dSeq; rw [h]
structure RowG (P : Int) (r : Row) : Prop where
  nm : Good r.nm
  s0 : 0 < r.s
  s1 : r.s < P
  o0 : 0 ≤ r.o
  o1 : r.o ≤ 20000
  b0 : 0 ≤ r.b
  b1 : r.b ≤ 20000
theorem RowOk.g {P : Int} {r : Row} (hP : P ≤ 1000) (h : RowOk P r) : RowG P r := ⟨h.nm, h.s0, h.s1, h.o0, by have := h.o1; omega, h.b0, by have := h.b1; omega⟩
theorem gEq_py {m : Mu} {x y : D} {p q : PyData} {b : Bool} (hx : pyOf m x = some p) (hy : pyOf m y = some q) (hs : (SeqAt.shaped p && SeqAt.shaped q) = true) (hc : scEq x y = none) (hb : PyData.eqv p q = b) : gEq x y m = .ok (.bl b) m := by
  unfold gEq orD gEqS
  rw [hc]
  simp only [gEqD, hx, hy]
  rw [if_pos hs, hb, Bool.false_xor]
@[simp] theorem tru_rat (c : Cs) (q : Rat) (m : Mu) : dTru m (rat c q) = none := rfl
structure Grew (m m' : Mu) : Prop where
  ex : ∃ t, m' = m ++ t
  cl : Cl m'
theorem Grew.trans {m m1 m2 : Mu} (h : Grew m m1) (k : Grew m1 m2) : Grew m m2 := by
  obtain ⟨t, rfl⟩ := h.ex
  obtain ⟨u, rfl⟩ := k.ex
  exact ⟨⟨t ++ u, by simp⟩, k.cl⟩
theorem Grew.get {m m' : Mu} (h : Grew m m') {n : Nat} {o : Mo} (e : m[n]? = some o) : m'[n]? = some o := by
  obtain ⟨t, rfl⟩ := h.ex
  rw [List.getElem?_append_left]
  · exact e
  · exact (List.getElem?_eq_some_iff.mp e).1
theorem Grew.bag {m m' : Mu} (h : Grew m m') (b : BagOk m) : BagOk m' := by
  obtain ⟨o, ho, hb⟩ := b.ex
  exact ⟨⟨o, h.get ho, hb⟩⟩
theorem loop_allG {G : DG} {b : List (Str × Addr) → DS} {M : Mu → Prop} {E : En → Prop} : ∀ (ds : List D) (m : Mu), (∀ d ∈ ds, ∀ m, M m → ∃ m2, M m2 ∧ ∀ g e, E e → ∃ e1 e2, G d e = some e1 ∧ b g e1 m = .nx e2 m2 ∧ E e2) → M m →
    ∃ m2, M m2 ∧ ∀ g e, E e → ∃ e2, dLoop G (b g) ds e m = .nx e2 m2 ∧ E e2
  | [], m, _, hm => ⟨m, hm, fun g e he => ⟨e, rfl, he⟩⟩
  | d :: ds, m, h, hm => by
    obtain ⟨m1, h1, k1⟩ := h d (by simp) m hm
    obtain ⟨m2, h2, k2⟩ := loop_allG ds m1 (fun d' hd => h d' (by simp [hd])) h1
    refine ⟨m2, h2, fun g e he => ?_⟩
    obtain ⟨e1, e2, a1, a2, a3⟩ := k1 g e he
    obtain ⟨e3, b1, b2⟩ := k2 g e2 a3
    exact ⟨e3, by simp only [dLoop, a1, a2]; exact b1, b2⟩
structure Okp (P : Int) (p : Int × Int) : Prop where
  a0 : 0 ≤ p.1
  a1 : p.1 < P
  w0 : 0 ≤ p.2
  w1 : p.2 ≤ P
structure Okq (P : Int) (p : Int × Int) : Prop where
  a0 : 0 ≤ p.1
  a1 : p.1 < P
  w0 : 0 ≤ p.2
  w1 : p.2 < P
theorem Okq.p {P : Int} {p : Int × Int} (h : Okq P p) : Okp P p := ⟨h.a0, h.a1, h.w0, Int.le_of_lt h.w1⟩
def pick {α : Type} (qs : List α) (C : List Nat) : List α := C.filterMap (qs[·]?)
def AscX (ps : List (Rat × Rat)) : Prop := ps.Pairwise fun a b => a.1 < b.1
def strt3 (p q r : Rat × Rat) : Prop := (q.2 - p.2) * (r.1 - q.1) = (r.2 - q.2) * (q.1 - p.1)
instance instStrt3 (p q r : Rat × Rat) : Decidable (strt3 p q r) := inferInstanceAs (Decidable (_ = _))
theorem AscX.lt {p q : Rat × Rat} {l : List (Rat × Rat)} (h : AscX (p :: q :: l)) : p.1 < q.1 := (List.pairwise_cons.mp h).1 q (by simp)
@[simp ↓] theorem gAddS_rat (c : Cs) (q : Rat) (y : D) (m : Mu) : gAddS (rat c q) y m = .stuck := rfl
theorem NXe {a b : DS} {e e1 : En} {m m1 m2 : Mu} {P : En → Prop} (h : a e m = .nx e1 m1) (k : ∃ e2, b e1 m1 = .nx e2 m2 ∧ P e2) : ∃ e2, dSeq a b e m = .nx e2 m2 ∧ P e2 := by
  obtain ⟨e2, k1, k2⟩ := k
  exact ⟨e2, (dSeq_nx h).trans k1, k2⟩
structure Fo where
  h : Rat
  s : Rat
  r : Rat
  p : Rat
def Fo.v (f : Fo) (x : Rat) : Rat := f.h + f.s * aw (f.r * x + f.p)
end W

set_option maxHeartbeats 4000000
namespace W
open PySem PySem.Spec L2 DL
abbrev tl (x : Str) : List Nat := x.cps.toList
def Sx (l : List Nat) : Str := ⟨l.toArray⟩
theorem tl_S (l : List Nat) : tl (Sx l) = l := rfl
theorem tl_inj {x y : Str} (h : tl x = tl y) : x = y := TL.ext_tl h
theorem S_tl (x : Str) : Sx (tl x) = x := tl_inj rfl
theorem tl_app (x y : Str) : tl (x ++ y) = tl x ++ tl y := TL.tl_append x y
theorem tl_len (x : Str) : (tl x).length = x.length := (TL.len_tl x).symm
def dig (c : Nat) : Bool := decide (48 ≤ c) && decide (c ≤ 57)
def canon (ds : List Nat) : Bool := !ds.isEmpty && (ds.all dig && !(decide (1 < ds.length) && ds.head? == some 48))
abbrev vl (ds : List Nat) : Nat := NumText.digitsVal ds
theorem dig_all {ds : List Nat} (h : ds.all dig = true) : NumText.AllDigits ds := fun c hc => by
  have := List.all_eq_true.mp h c hc
  unfold dig at this
  rw [Bool.and_eq_true, decide_eq_true_eq, decide_eq_true_eq] at this
  exact this
theorem all_dig {ds : List Nat} (h : NumText.AllDigits ds) : ds.all dig = true := List.all_eq_true.mpr fun c hc => by
  have := h c hc
  unfold dig
  rw [Bool.and_eq_true, decide_eq_true_eq, decide_eq_true_eq]
  exact this
theorem vl_snoc (ds : List Nat) (c : Nat) : vl (ds ++ [c]) = vl ds * 10 + (c - 48) := by
  unfold vl NumText.digitsVal
  rw [List.foldl_append]
  rfl
structure Canon (ds : List Nat) : Prop where
  ne : ds ≠ []
  dg : ds.all dig = true
  hd : 1 < ds.length → ds.head? ≠ some 48
theorem canon_iff {ds : List Nat} : canon ds = true ↔ Canon ds := by
  unfold canon
  rw [Bool.and_eq_true, Bool.and_eq_true, Bool.not_eq_true', Bool.not_eq_true', Bool.and_eq_false_iff]
  refine ⟨?_, ?_⟩
  · rintro ⟨h1, h2, h3⟩
    refine ⟨fun z => (by rw [z] at h1; cases h1), h2, fun hl z => ?_⟩
    rcases h3 with h3 | h3
    · simp at h3; omega
    · rw [z] at h3; simp at h3
  · rintro ⟨h1, h2, h3⟩
    refine ⟨by cases ds with | nil => exact absurd rfl h1 | cons a t => rfl, h2, ?_⟩
    by_cases hl : 1 < ds.length
    · right; simpa using h3 hl
    · left; simpa using hl
theorem canon_num : ∀ (n : Nat) {ds : List Nat}, ds.length = n → Canon ds → TL.numL (vl ds) = ds ∧ (ds.head? ≠ some 48 → 1 ≤ vl ds) := by
  intro n
  induction n using Nat.strongRecOn with
  | _ n ih =>
    intro ds hn h
    rcases List.eq_nil_or_concat ds with rfl | ⟨init, c, rfl⟩
    · exact absurd rfl h.ne
    · have hc : 48 ≤ c ∧ c ≤ 57 := dig_all h.dg c (by simp)
      rw [List.concat_eq_append, vl_snoc]
      by_cases z : init = []
      · subst z
        have v0 : vl [] = 0 := rfl
        rw [v0, Nat.zero_mul, Nat.zero_add, TL.numL_lt (by omega)]
        refine ⟨?_, fun hh => ?_⟩
        · rw [show 48 + (c - 48) = c by omega]; rfl
        · simp at hh; omega
      · have l1 : 1 ≤ init.length := List.length_pos_iff.mpr z
        have hd : init.head? ≠ some 48 := by
          have := h.hd (by rw [List.concat_eq_append, List.length_append]; simp; omega)
          rw [List.concat_eq_append] at this
          cases init with
          | nil => exact absurd rfl z
          | cons a t => simpa using this
        have ci : Canon init := ⟨z, by
          have := h.dg
          rw [List.concat_eq_append, List.all_append, Bool.and_eq_true] at this
          exact this.1, fun _ => hd⟩
        obtain ⟨i1, i2⟩ := ih init.length (by rw [← hn, List.concat_eq_append, List.length_append]; simp) rfl ci
        have v1 := i2 hd
        refine ⟨?_, fun _ => by omega⟩
        rw [TL.numL_step (by omega), show (vl init * 10 + (c - 48)) / 10 = vl init by omega, show 48 + (vl init * 10 + (c - 48)) % 10 = c by omega, i1]
theorem canon_num' {ds : List Nat} (h : Canon ds) : TL.numL (vl ds) = ds := (canon_num ds.length rfl h).1
theorem num_head : ∀ n : Nat, 1 ≤ n → (TL.numL n).head? ≠ some 48 := by
  intro n
  induction n using Nat.strongRecOn with
  | _ n ih =>
    intro h1
    by_cases h : n < 10
    · rw [TL.numL_lt h]; simp; omega
    · rw [TL.numL_step (by omega)]
      have := ih (n / 10) (by omega) (by omega)
      have ne := TL.numL_ne (n / 10)
      cases hh : TL.numL (n / 10) with
      | nil => exact absurd hh ne
      | cons a t => rw [hh] at this; simpa using this
theorem num_canon (n : Nat) : Canon (TL.numL n) := by
  refine ⟨TL.numL_ne n, all_dig (TL.numL_digits n), fun hl => ?_⟩
  by_cases h : n < 10
  · rw [TL.numL_lt h] at hl; simp at hl
  · exact num_head n (by omega)
theorem vl_num (n : Nat) : vl (TL.numL n) = n := TL.numL_val n
def readW : List Nat → Option Int
  | [] => none
  | c :: cs => if c = 45 then (if canon cs = true ∧ cs ≠ [48] then some (-(vl cs : Int)) else none) else (if canon (c :: cs) = true then some (vl (c :: cs) : Int) else none)
theorem itxt_nat (n : Nat) : tl (itxt n) = TL.numL n := by
  have e := TL.tl_num n
  rw [← e]
  rfl
theorem itxt_neg {n : Nat} (h : 1 ≤ n) : tl (itxt (-(n : Int))) = 45 :: TL.numL n := by
  obtain ⟨k, rfl⟩ : ∃ k, n = k + 1 := ⟨n - 1, by omega⟩
  have e : itxt (-((k + 1 : Nat) : Int)) = Str.ofString "-" ++ itxt ((k + 1 : Nat) : Int) := by
    apply tl_inj
    show tl (Str.ofString (Int.repr (Int.negSucc k))) = _
    have r : Int.repr (Int.negSucc k) = "-" ++ Nat.repr (k + 1) := rfl
    rw [r, tl_app]
    show TL.tl (Str.ofString _) = TL.tl (Str.ofString "-") ++ TL.tl (Str.ofString (Nat.repr (k + 1)))
    rw [TL.tl_ofString, TL.tl_ofString, TL.tl_ofString, String.toList_append, List.map_append]
  rw [e, tl_app, itxt_nat]
  have : tl (Str.ofString "-") = [45] := by decide +kernel
  rw [this]; rfl
theorem num_head45 (n : Nat) : ∃ c cs, TL.numL n = c :: cs ∧ c ≠ 45 := by
  have ne := TL.numL_ne n
  have f := TL.numL_free (n := n) (s := 45) (by omega)
  cases h : TL.numL n with
  | nil => exact absurd h ne
  | cons c cs => exact ⟨c, cs, rfl, fun e => f (by rw [h, e]; simp)⟩
theorem readW_itxt (a : Int) : readW (tl (itxt a)) = some a := by
  obtain ⟨n, rfl | rfl⟩ := Int.eq_nat_or_neg a
  · obtain ⟨c, cs, h, hc⟩ := num_head45 n
    rw [itxt_nat, h]
    show (if c = 45 then (if canon cs = true ∧ cs ≠ [48] then some (-(vl cs : Int)) else none) else (if canon (c :: cs) = true then some (vl (c :: cs) : Int) else none)) = _
    rw [if_neg hc, if_pos (canon_iff.mpr (by rw [← h]; exact num_canon n)), ← h, vl_num]
  · by_cases z : n = 0
    · subst z
      show readW (tl (itxt 0)) = some 0
      decide +kernel
    · rw [itxt_neg (by omega)]
      show (if 45 = 45 then (if canon (TL.numL n) = true ∧ TL.numL n ≠ [48] then some (-(vl (TL.numL n) : Int)) else none) else (if canon (45 :: TL.numL n) = true then some (vl (45 :: TL.numL n) : Int) else none)) = _
      rw [if_pos rfl, if_pos ⟨canon_iff.mpr (num_canon n), fun e => z (by have := vl_num n; rw [e] at this; rw [← this]; rfl)⟩, vl_num]
theorem readW_some {l : List Nat} {a : Int} (h : readW l = some a) : l = tl (itxt a) := by
  cases l with
  | nil => cases h
  | cons c cs =>
    have h : (if c = 45 then (if canon cs = true ∧ cs ≠ [48] then some (-(vl cs : Int)) else none) else (if canon (c :: cs) = true then some (vl (c :: cs) : Int) else none)) = some a := h
    by_cases hc : c = 45
    · rw [if_pos hc] at h
      split at h
      · rename_i k
        cases h
        have cn := canon_num' (canon_iff.mp k.1)
        have v1 : 1 ≤ vl cs := by
          by_cases z : vl cs = 0
          · exfalso
            rw [z] at cn
            exact k.2 (by rw [← cn]; decide +kernel)
          · omega
        rw [itxt_neg v1, cn, hc]
      · cases h
    · rw [if_neg hc] at h
      split at h
      · rename_i k
        cases h
        rw [itxt_nat, canon_num' (canon_iff.mp k)]
      · cases h
end W
set_option maxHeartbeats 4000000
namespace W
open PySem PySem.Spec L2 DL
theorem cut1 (w : Str) : tl (cutS w none (some 1)) = (tl w).take 1 := by
  show ((tl w).drop (HT.sIx w.length 0 none)).take (HT.sIx w.length w.length (some ((1 : Nat) : Int)) - HT.sIx w.length 0 none) = _
  rw [HT.sIx_nat, HT.sIx_none, List.drop_zero, Nat.sub_zero, ← tl_len]
  by_cases h : 1 ≤ (tl w).length
  · rw [Nat.min_eq_left h]
  · have : tl w = [] := List.length_eq_zero_iff.mp (by omega)
    rw [this]; rfl
theorem cut2 (w : Str) : tl (cutS w (some 1) none) = (tl w).drop 1 := by
  show ((tl w).drop (HT.sIx w.length 0 (some ((1 : Nat) : Int)))).take (HT.sIx w.length w.length none - HT.sIx w.length 0 (some ((1 : Nat) : Int))) = _
  rw [HT.sIx_nat, HT.sIx_none, ← tl_len]
  by_cases h : 1 ≤ (tl w).length
  · rw [Nat.min_eq_left h]
    exact List.take_of_length_le (by simp)
  · have : tl w = [] := List.length_eq_zero_iff.mp (by omega)
    rw [this]; rfl
theorem occ1 (c : Nat) (z : Str) : occurs ⟨#[c]⟩ z = decide (c ∈ tl z) := StrLaws.found_one z c
theorem figs : tl ("0123456789" : Str) = [48, 49, 50, 51, 52, 53, 54, 55, 56, 57] := by decide +kernel
theorem occ_dig (c : Nat) : occurs ⟨#[c]⟩ "0123456789" = dig c := by
  rw [occ1, figs]
  unfold dig
  rw [← Bool.decide_and]
  refine decide_eq_decide.mpr ?_
  simp
  omega
theorem dash : tl ("-" : Str) = [45] := by decide +kernel
theorem tl_empty : tl ("" : Str) = [] := by decide +kernel
theorem is_dash (w : Str) : (cutS w none (some 1) = "-") ↔ ∃ cs, tl w = 45 :: cs := by
  constructor
  · intro h
    have := congrArg tl h
    rw [cut1, dash] at this
    cases e : tl w with
    | nil => rw [e] at this; cases this
    | cons c cs => rw [e] at this; simp at this; exact ⟨cs, by rw [this]⟩
  · rintro ⟨cs, h⟩
    apply tl_inj
    rw [cut1, h, dash]; rfl
theorem is_empty (w : Str) : (w = "") ↔ tl w = [] := ⟨fun h => by rw [h]; exact tl_empty, fun h => tl_inj (by rw [h, tl_empty])⟩
theorem digs_comp {b : DE} {e0 : En} {mk : Option D → En} (w : Str) (hl : w.length ≤ 1000) {m : Mu} {i : Nat} (hg : ∀ d, dName i d e0 = some (mk (some d))) (hb : ∀ k : Nat, b (mk (some (.str ⟨#[k]⟩))) m = .ok (.bl (dig k)) m) : dCompL (dName i) dYes b e0 (signs w) m [] = .ok ((tl w).map fun k => .bl (dig k)) m := by
  have hz : sizeLine = 16777216 := rfl
  have q := compL_of (g := dName i) (c := dYes) (b := b) (e := e0) (m := m) (F := fun k : Nat => D.str ⟨#[k]⟩) (f := fun k => .bl (dig k)) (p := fun _ => true) (tl w) [] (fun k _ => ⟨_, hg _, by simp, fun _ => hb k⟩) (by rw [tl_len]; simp [hz]; omega)
  rw [filt_true, List.nil_append] at q
  exact q
theorem all_digs (l : List Nat) (m : Mu) : gAll [.lst (l.map fun k => .bl (dig k))] m = .ok (.bl (l.all dig)) m := by
  have e := toBs_all dig l
  obtain ⟨X, hX⟩ : ∃ X, (l.map fun k => D.bl (dig k)) = X := ⟨_, rfl⟩
  rw [hX] at e ⊢
  simp [gAll, e]
def wD : Option Int → D
  | none => .non
  | some a => .int a
theorem readW_is {w : Str} {n : Int} (h : ∀ a, readW (tl w) = some a → a = n) : readW (tl w) = if itxt n = w then some n else none := by
  by_cases e : itxt n = w
  · rw [if_pos e, ← e, readW_itxt]
  · rw [if_neg e]
    cases q : readW (tl w) with
    | none => rfl
    | some a =>
      have := h a q
      subst this
      exact absurd (tl_inj (readW_some q)).symm e
theorem int_pos {w : Str} (hl : w.length ≤ 640) (hne : tl w ≠ []) (ha : (tl w).all dig = true) : PySem.intText? w = some ((vl (tl w) : Nat) : Int) := intText_digits (dig_all ha) hne (by omega)
theorem int_neg {w : Str} {cs : List Nat} (hw : tl w = 45 :: cs) (hl : w.length ≤ 640) (hne : cs ≠ []) (ha : cs.all dig = true) : PySem.intText? w = some (-((vl cs : Nat) : Int)) := intText_neg hw (dig_all ha) hne (by omega)
theorem canon_false {cs : List Nat} (h : ¬ (cs ≠ [] ∧ cs.all dig = true)) : canon cs = false := by
  cases e : canon cs with
  | false => rfl
  | true =>
    have c := canon_iff.mp e
    exact absurd ⟨c.ne, c.dg⟩ h
theorem ten_pow {l : List Nat} (h : NumText.AllDigits l) : vl l < 10 ^ l.length := by
  have key : ∀ n : Nat, ∀ l : List Nat, l.length = n → NumText.AllDigits l → vl l < 10 ^ l.length := by
    intro n
    induction n with
    | zero => intro l hl _; rw [List.length_eq_zero_iff.mp hl]; decide
    | succ n ih =>
      intro l hl hd
      rcases List.eq_nil_or_concat l with rfl | ⟨i, c, rfl⟩
      · cases hl
      · rw [List.concat_eq_append] at hl hd ⊢
        rw [List.length_append] at hl
        have := ih i (by simpa using hl) fun c hc => hd c (List.mem_append_left _ hc)
        have hc := hd c (by simp)
        rw [vl_snoc, List.length_append, List.length_singleton, Nat.pow_succ]
        omega
  exact key _ l rfl h
theorem stri_ok {n : Int} (h : n.natAbs.log2 < 1920) (m : Mu) : gStrI [.int n] m = .ok (.str (itxt n)) m := by
  simp [gStrI, h, itxt]
theorem whole_ok (c : Cs) {w : Str} (hl : w.length ≤ 500) (m : Mu) : F_whole_in c [.str w] m = .ok (wD (readW (tl w))) m := by
  have hz : sizeLine = 16777216 := rfl
  have wl : w.length ≤ 16777216 := by omega
  have gE : ∀ a b : Str, gEq (.str a) (.str b) m = .ok (.bl (decide (a = b))) m := fun a b => by simp [gEq, scEq]
  have gD := gE (cutS w none (some 1)) "-"
  have log_of : ∀ n : Int, n.natAbs < 10 ^ 500 → n.natAbs.log2 < 1920 := fun n h => by
    by_cases z : n.natAbs = 0
    · rw [z]; decide
    · exact (Nat.log2_lt z).mpr (Nat.lt_trans h (by decide +kernel))
  by_cases hd : ∃ cs, tl w = 45 :: cs
  · rw [decide_eq_true ((is_dash w).mpr hd)] at gD
    obtain ⟨cs, hw⟩ := hd
    have tD : tl (cutS w (some 1) none) = cs := by rw [cut2, hw]; rfl
    obtain ⟨DG, hDG⟩ : ∃ d, cutS w (some 1) none = d := ⟨_, rfl⟩
    rw [hDG] at tD
    have dl : DG.length ≤ 1000 := by
      have := congrArg List.length hw
      rw [tl_len] at this
      rw [← tl_len, tD]
      simp at this
      omega
    obtain ⟨CT, hCT⟩ : ∃ d, cutS w none (some 1) = d := ⟨_, rfl⟩
    rw [hCT] at gD
    have cm := digs_comp (b := C_whole_in_1 c) (e0 := [some (.str w), some (.str DG), none, none]) (mk := fun x => [some (.str w), some (.str DG), x, none]) DG dl (m := m) (i := 2) (fun d => by simp) (fun k => by simp [C_whole_in_1_ap, occ_dig])
    rw [tD] at cm
    have ga := all_digs cs m
    obtain ⟨BL, hBL⟩ : ∃ X, (cs.map fun k => D.bl (dig k)) = X := ⟨_, rfl⟩
    rw [hBL] at cm ga
    have gM := gE DG ""
    by_cases ok : cs ≠ [] ∧ cs.all dig = true
    · have it := int_neg hw (by omega) ok.1 ok.2
      have rr := readW_is (w := w) (n := -((vl cs : Nat) : Int)) (fun a h => by
        rw [hw] at h
        have h : (if (45 : Nat) = 45 then (if canon cs = true ∧ cs ≠ [48] then some (-(vl cs : Int)) else none) else (if canon (45 :: cs) = true then some (vl (45 :: cs) : Int) else none)) = some a := h
        rw [if_pos rfl] at h
        split at h
        · cases h; rfl
        · cases h)
      have tp := ten_pow (dig_all ok.2)
      have cl : cs.length ≤ 500 := by
        rw [← tD, tl_len]
        have := congrArg List.length hw
        rw [tl_len] at this
        rw [← tl_len, tD]
        simp at this
        omega
      have tp2 := Nat.pow_le_pow_right (show 0 < 10 by decide) cl
      have st := stri_ok (n := -((vl cs : Nat) : Int)) (log_of _ (by rw [Int.natAbs_neg, Int.natAbs_natCast]; omega)) m
      rw [decide_eq_false (fun h => ok.1 (by rw [← tD]; exact (is_empty DG).mp h))] at gM
      rw [ok.2] at ga
      obtain ⟨N, hN⟩ : ∃ N : Int, -((vl cs : Nat) : Int) = N := ⟨_, rfl⟩
      rw [hN] at it rr st
      have gW := gE (itxt N) w
      obtain ⟨IT, hIT⟩ : ∃ x, itxt N = x := ⟨_, rfl⟩
      rw [hIT] at st gW rr
      rw [rr]
      have w6 : w.length ≤ 640 := by omega
      by_cases e : IT = w
      · rw [if_pos e]
        rw [decide_eq_true e] at gW
        simp [F_whole_in, env0, hz, wl, hCT, gD, hDG, gM, cm, ga, -gAll_ap, it, w6, -gStrI_ap, st, gW, wipeE, wD]
      · rw [if_neg e]
        rw [decide_eq_false e] at gW
        simp [F_whole_in, env0, hz, wl, hCT, gD, hDG, gM, cm, ga, -gAll_ap, it, w6, -gStrI_ap, st, gW, wipeE, wD]
    · have rr : readW (tl w) = none := by
        rw [hw]
        show (if (45 : Nat) = 45 then (if canon cs = true ∧ cs ≠ [48] then some (-(vl cs : Int)) else none) else (if canon (45 :: cs) = true then some (vl (45 :: cs) : Int) else none)) = none
        rw [if_pos rfl, canon_false ok]
        rfl
      rw [rr]
      by_cases e : cs = []
      · rw [decide_eq_true ((is_empty DG).mpr (by rw [tD, e]))] at gM
        simp [F_whole_in, env0, hz, wl, hCT, gD, hDG, gM, wD]
      · have a0 : cs.all dig = false := by
          cases q : cs.all dig with
          | false => rfl
          | true => exact absurd ⟨e, q⟩ ok
        rw [a0] at ga
        rw [decide_eq_false (fun h => e (by rw [← tD]; exact (is_empty DG).mp h))] at gM
        simp [F_whole_in, env0, hz, wl, hCT, gD, hDG, gM, cm, ga, -gAll_ap, wipeE, wD]
  · rw [decide_eq_false (fun h => hd ((is_dash w).mp h))] at gD
    obtain ⟨CT, hCT⟩ : ∃ d, cutS w none (some 1) = d := ⟨_, rfl⟩
    rw [hCT] at gD
    have cm := digs_comp (b := C_whole_in_1 c) (e0 := [some (.str w), some (.str w), none, none]) (mk := fun x => [some (.str w), some (.str w), x, none]) w (by omega) (m := m) (i := 2) (fun d => by simp) (fun k => by simp [C_whole_in_1_ap, occ_dig])
    obtain ⟨cs, hw⟩ : ∃ cs, tl w = cs := ⟨_, rfl⟩
    have rdef : ∀ a, readW cs = some a → cs ≠ [] ∧ cs.all dig = true ∧ a = ((vl cs : Nat) : Int) := fun a h => by
      cases cs with
      | nil => cases h
      | cons k t =>
        have k45 : k ≠ 45 := fun e => hd ⟨t, by rw [hw, e]⟩
        have h : (if k = 45 then (if canon t = true ∧ t ≠ [48] then some (-(vl t : Int)) else none) else (if canon (k :: t) = true then some (vl (k :: t) : Int) else none)) = some a := h
        rw [if_neg k45] at h
        split at h
        · rename_i q
          cases h
          have cc := canon_iff.mp q
          exact ⟨cc.ne, cc.dg, rfl⟩
        · cases h
    rw [hw] at cm
    have ga := all_digs cs m
    obtain ⟨BL, hBL⟩ : ∃ X, (cs.map fun k => D.bl (dig k)) = X := ⟨_, rfl⟩
    rw [hBL] at cm ga
    have gM := gE w ""
    by_cases ok : cs ≠ [] ∧ cs.all dig = true
    · have it := int_pos (w := w) (by omega) (by rw [hw]; exact ok.1) (by rw [hw]; exact ok.2)
      have rr := readW_is (w := w) (n := ((vl cs : Nat) : Int)) (fun a h => by rw [hw] at h; exact (rdef a h).2.2)
      rw [hw] at it
      have tp := ten_pow (dig_all ok.2)
      have cl : cs.length ≤ 500 := by rw [← hw, tl_len]; exact hl
      have tp2 := Nat.pow_le_pow_right (show 0 < 10 by decide) cl
      have st := stri_ok (n := ((vl cs : Nat) : Int)) (log_of _ (by rw [Int.natAbs_natCast]; omega)) m
      rw [decide_eq_false (fun h => ok.1 (by rw [← hw]; exact (is_empty w).mp h))] at gM
      rw [ok.2] at ga
      obtain ⟨N, hN⟩ : ∃ N : Int, ((vl cs : Nat) : Int) = N := ⟨_, rfl⟩
      rw [hN] at it rr st
      have gW := gE (itxt N) w
      obtain ⟨IT, hIT⟩ : ∃ x, itxt N = x := ⟨_, rfl⟩
      rw [hIT] at st gW rr
      rw [rr]
      have w6 : w.length ≤ 640 := by omega
      by_cases e : IT = w
      · rw [if_pos e]
        rw [decide_eq_true e] at gW
        simp [F_whole_in, env0, hz, wl, hCT, gD, gM, cm, ga, -gAll_ap, it, w6, -gStrI_ap, st, gW, wipeE, wD]
      · rw [if_neg e]
        rw [decide_eq_false e] at gW
        simp [F_whole_in, env0, hz, wl, hCT, gD, gM, cm, ga, -gAll_ap, it, w6, -gStrI_ap, st, gW, wipeE, wD]
    · have rr : readW (tl w) = none := by
        cases q : readW (tl w) with
        | none => rfl
        | some a =>
          rw [hw] at q
          exact absurd ⟨(rdef a q).1, (rdef a q).2.1⟩ ok
      rw [rr]
      by_cases e : cs = []
      · rw [decide_eq_true ((is_empty w).mpr (by rw [hw, e]))] at gM
        simp [F_whole_in, env0, hz, wl, hCT, gD, gM, wD]
      · have a0 : cs.all dig = false := by
          cases q : cs.all dig with
          | false => rfl
          | true => exact absurd ⟨e, q⟩ ok
        rw [a0] at ga
        rw [decide_eq_false (fun h => e (by rw [← hw]; exact (is_empty w).mp h))] at gM
        simp [F_whole_in, env0, hz, wl, hCT, gD, gM, cm, ga, -gAll_ap, wipeE, wD]
end W
set_option maxHeartbeats 8000000
namespace W
open PySem PySem.Spec L2 DL
theorem slash : tl ("/" : Str) = [47] := by decide +kernel
theorem first47 : ∀ l : List Nat, 47 ∉ l ∨ ∃ p r, l = p ++ 47 :: r ∧ 47 ∉ p
  | [] => .inl (by simp)
  | c :: l => by
    by_cases h : c = 47
    · exact .inr ⟨[], l, by rw [h]; rfl, by simp⟩
    · rcases first47 l with k | ⟨p, r, e, k⟩
      · exact .inl (by simp only [List.mem_cons, not_or]; exact ⟨fun z => h z.symm, k⟩)
      · exact .inr ⟨c :: p, r, by rw [e]; rfl, by simp only [List.mem_cons, not_or]; exact ⟨fun z => h z.symm, k⟩⟩
theorem cut_cases (w : Str) : (47 ∉ tl w ∧ Txt.partition w "/" = (w, ("" : Str), ("" : Str))) ∨ ∃ f b, w = f ++ "/" ++ b ∧ 47 ∉ tl f ∧ Txt.partition w "/" = (f, ("/" : Str), b) := by
  rcases first47 (tl w) with h | ⟨p, r, e, h⟩
  · refine .inl ⟨h, ?_⟩
    rw [TL.partition_none (S := []) slash h]
    have : Str.empty = ("" : Str) := tl_inj (by rw [tl_empty]; rfl)
    rw [this]
  · have ew : w = Sx p ++ "/" ++ Sx r := tl_inj (by rw [tl_app, tl_app, slash, e]; show p ++ 47 :: r = (p ++ [47]) ++ r; simp)
    refine .inr ⟨Sx p, Sx r, ew, h, ?_⟩
    rw [ew]
    exact TL.partition_app (S := []) slash h
theorem itxt_free (a : Int) : 47 ∉ tl (itxt a) := by
  obtain ⟨n, rfl | rfl⟩ := Int.eq_nat_or_neg a
  · rw [itxt_nat]; exact TL.numL_free (by omega)
  · by_cases z : n = 0
    · subst z; show 47 ∉ tl (itxt 0); decide +kernel
    · rw [itxt_neg (by omega)]
      have := TL.numL_free (n := n) (s := 47) (by omega)
      simp only [List.mem_cons, not_or]
      exact ⟨by decide, this⟩
theorem itxt_inj {a b : Int} (h : itxt a = itxt b) : a = b := by
  have h1 := readW_itxt a
  rw [h, readW_itxt] at h1
  exact (Option.some.inj h1).symm
theorem split_inj {f b f' b' : Str} (h : f ++ "/" ++ b = f' ++ "/" ++ b') (k : 47 ∉ tl f) (k' : 47 ∉ tl f') : f = f' ∧ b = b' := by
  have e := TL.partition_app (y := ("/" : Str)) (S := []) slash (b := b) k
  have e' := TL.partition_app (y := ("/" : Str)) (S := []) slash (b := b') k'
  rw [h, e'] at e
  simp only [Prod.mk.injEq] at e
  exact ⟨e.1.symm, e.2.2.symm⟩
def specB (a : Int) : Option Int → Option Rat
  | none => none
  | some n => if 2 ≤ n ∧ (Rat.divInt a n).num = a ∧ ((Rat.divInt a n).den : Int) = n then some (Rat.divInt a n) else none
def specA (p : Str × Str × Str) : Option Int → Option Rat
  | none => none
  | some a => if p.2.1 = "/" then specB a (readW (tl p.2.2)) else some (a : Rat)
def specR (w : Str) : Option Rat := if 100 < w.length then none else specA (Txt.partition w "/") (readW (tl (Txt.partition w "/").1))
theorem wtxt_is {a n : Int} (hn : n ≠ 0) : wtxt (Rat.divInt a n) = itxt a ++ "/" ++ itxt n ↔ 2 ≤ n ∧ (Rat.divInt a n).num = a ∧ ((Rat.divInt a n).den : Int) = n := by
  obtain ⟨q, hq⟩ : ∃ q, Rat.divInt a n = q := ⟨_, rfl⟩
  rw [hq]
  have dp := q.den_pos
  unfold wtxt
  by_cases d1 : q.den = 1
  · rw [if_pos d1]
    constructor
    · intro h
      exfalso
      have k := itxt_free q.num
      rw [h, tl_app, tl_app, slash] at k
      exact k (by simp)
    · rintro ⟨h1, _, h3⟩
      rw [d1] at h3; omega
  · rw [if_neg d1]
    constructor
    · intro h
      obtain ⟨h1, h2⟩ := split_inj h (itxt_free _) (itxt_free _)
      have e1 := itxt_inj h1
      have e2 := itxt_inj h2
      exact ⟨by omega, e1, e2⟩
    · rintro ⟨_, h2, h3⟩
      rw [h2, h3]
theorem readW_bd {l : List Nat} {a : Int} (h : readW l = some a) (hl : l.length ≤ 100) : a.natAbs < 2 ^ 400 := by
  have up : ∀ ds : List Nat, ds.all dig = true → ds.length ≤ 100 → vl ds < 2 ^ 400 := fun ds hd hl => by
    have h1 := ten_pow (dig_all hd)
    have h2 := Nat.pow_le_pow_right (show 0 < 10 by decide) hl
    have h3 : (10 : Nat) ^ 100 < 2 ^ 400 := by decide +kernel
    omega
  cases l with
  | nil => cases h
  | cons c cs =>
    simp only [List.length_cons] at hl
    have h : (if c = 45 then (if canon cs = true ∧ cs ≠ [48] then some (-(vl cs : Int)) else none) else (if canon (c :: cs) = true then some (vl (c :: cs) : Int) else none)) = some a := h
    by_cases hc : c = 45
    · rw [if_pos hc] at h
      split at h
      · rename_i k
        cases h
        rw [Int.natAbs_neg, Int.natAbs_natCast]
        exact up cs (canon_iff.mp k.1).dg (by omega)
      · cases h
    · rw [if_neg hc] at h
      split at h
      · rename_i k
        cases h
        rw [Int.natAbs_natCast]
        exact up _ (canon_iff.mp k).dg (by simp; omega)
      · cases h
def badX (w : D) : List (Str × D) := [("given", w), ("code", .str "InvalidRatio")]
def rdR (c : Cs) (w : Str) (m : Mu) : Option Rat → Res D
  | none => .exc c.cInvalidRatio (badX (.str w)) m
  | some q => .ok (rat c q) m
theorem read_ok (c : Cs) {w : Str} (hl : w.length ≤ 500) {m : Mu} (hm : Cl m) : F_Ratio_read c [.val (.ref c.cRatio), .str w] m = rdR c w m (specR w) := by
  have hz : sizeLine = 16777216 := rfl
  have er := fun e => raise_InvalidRatio c (.str w) (m := m) e hm rfl
  simp [padF] at er
  have wl : w.length ≤ 16777216 := by omega
  have gE : ∀ a b : Str, gEq (.str a) (.str b) m = .ok (.bl (decide (a = b))) m := fun a b => by simp [gEq, scEq]
  have gN : ∀ a b : Str, gNe (.str a) (.str b) m = .ok (.bl (!decide (a = b))) m := fun a b => by simp [gNe, scEq]
  have s1 : ("/" : Str).length = 1 := by decide +kernel
  obtain ⟨N, hN⟩ : ∃ N : Int, (w.length : Int) = N := ⟨_, rfl⟩
  have gl : gLen [.str w] m = .ok (.int N) m := by rw [← hN]; simp [gLen]; omega
  have sne : ¬ ("" : Str) = "/" := fun h => by
    have := congrArg tl h
    rw [tl_empty, slash] at this
    cases this
  unfold specR
  by_cases big : 100 < w.length
  · rw [if_pos big]
    have b2 : 100 < N := by omega
    simp [F_Ratio_read, env0, ans_str, Ans.get, tagOf, primNames, -gLen_ap, gl, b2, er, rdR, badX]
  · rw [if_neg big]
    have b2 : ¬ 100 < N := by omega
    have w100 : w.length ≤ 100 := by omega
    rcases cut_cases w with ⟨h47, hp⟩ | ⟨f, b, ew, h47, hp⟩
    · rw [hp]
      dsimp only
      have wf := whole_ok c hl m
      cases q : readW (tl w) with
      | none =>
        rw [q] at wf
        have wf : F_whole_in c [.str w] m = .ok .non m := wf
        have gS := gE "" "/"
        rw [decide_eq_false sne] at gS
        simp [F_Ratio_read, env0, ans_str, Ans.get, tagOf, primNames, -gLen_ap, gl, b2, s1, wl, hp, gS, wf, er, rdR, badX, specA, gIsN, hz]
      | some a =>
        rw [q] at wf
        have wf : F_whole_in c [.str w] m = .ok (.int a) m := wf
        have gS := gE "" "/"
        rw [decide_eq_false sne] at gS
        have bd := readW_bd q (by rw [tl_len]; exact w100)
        have Ba : Bi 400 a := by unfold Bi; exact bd
        have r1 := rmk1 c (a := a) (k := 400) hm
        have zq : Sz 400 (a : Rat) := ⟨by rw [Rat.num_intCast]; exact Ba, by rw [Rat.den_intCast]; decide +kernel⟩
        have rs := rstr_ok c zq m
        have ew : wtxt (a : Rat) = w := by
          unfold wtxt
          rw [Rat.den_intCast, if_pos rfl, Rat.num_intCast]
          exact (tl_inj (readW_some q)).symm
        rw [ew] at rs
        have gW := gN w w
        rw [decide_eq_true rfl] at gW
        have sp : specA (w, ("" : Str), ("" : Str)) (some a) = some (a : Rat) := by
          unfold specA
          exact if_neg sne
        rw [sp]
        have iQ : insOf m (rat c (a : Rat)) = some (c.cRatio, nsRatio, [.int (a : Rat).num, .int (a : Rat).den]) := rfl
        show _ = Res.ok (rat c (a : Rat)) m
        obtain ⟨Q, hQ⟩ : ∃ Q, rat c (a : Rat) = Q := ⟨_, rfl⟩
        rw [hQ] at r1 rs iQ ⊢
        simp [F_Ratio_read, env0, ans_str, Ans.get, tagOf, primNames, -gLen_ap, gl, b2, s1, wl, hp, gS, sne, wf, gIsN, gEq, scEq, r1, dOwnStr, methAt, iQ, rs, gW, hz]
    · have lf : f.length ≤ 500 ∧ b.length ≤ 500 := by
        have := congrArg Str.length ew
        rw [Str.length_append, Str.length_append, s1] at this
        omega
      have lf2 : f.length ≤ 100 ∧ b.length ≤ 100 := by
        have := congrArg Str.length ew
        rw [Str.length_append, Str.length_append, s1] at this
        omega
      rw [hp]
      dsimp only
      have wf := whole_ok c lf.1 m
      have wb := whole_ok c lf.2 m
      have gS := gE "/" "/"
      rw [decide_eq_true rfl] at gS
      cases q : readW (tl f) with
      | none =>
        rw [q] at wf
        have wf : F_whole_in c [.str f] m = .ok .non m := wf
        cases q2 : readW (tl b) with
        | none =>
          rw [q2] at wb
          have wb : F_whole_in c [.str b] m = .ok .non m := wb
          simp [F_Ratio_read, env0, ans_str, Ans.get, tagOf, primNames, -gLen_ap, gl, b2, s1, wl, hp, gS, wf, wb, er, rdR, badX, specA, gIsN, hz]
        | some n =>
          rw [q2] at wb
          have wb : F_whole_in c [.str b] m = .ok (.int n) m := wb
          simp [F_Ratio_read, env0, ans_str, Ans.get, tagOf, primNames, -gLen_ap, gl, b2, s1, wl, hp, gS, wf, wb, er, rdR, badX, specA, gIsN, hz]
      | some a =>
        rw [q] at wf
        have wf : F_whole_in c [.str f] m = .ok (.int a) m := wf
        have sp : specA (f, ("/" : Str), b) (some a) = specB a (readW (tl b)) := by
          unfold specA
          exact if_pos rfl
        rw [sp]
        cases q2 : readW (tl b) with
        | none =>
          rw [q2] at wb
          have wb : F_whole_in c [.str b] m = .ok .non m := wb
          simp [F_Ratio_read, env0, ans_str, Ans.get, tagOf, primNames, -gLen_ap, gl, b2, s1, wl, hp, gS, wf, wb, er, rdR, badX, specB, gIsN, hz]
        | some n =>
          rw [q2] at wb
          have wb : F_whole_in c [.str b] m = .ok (.int n) m := wb
          by_cases n0 : n = 0
          · subst n0
            have : specB a (some 0) = none := by unfold specB; exact if_neg (fun h => by omega)
            rw [this]
            simp [F_Ratio_read, env0, ans_str, Ans.get, tagOf, primNames, -gLen_ap, gl, b2, s1, wl, hp, gS, wf, wb, er, rdR, badX, gIsN, gEq, scEq, hz]
          · have bd := readW_bd q (by rw [tl_len]; exact lf2.1)
            have bd2 := readW_bd q2 (by rw [tl_len]; exact lf2.2)
            have Ba : Bi 400 a := by unfold Bi; exact bd
            have Bn : Bi 400 n := by unfold Bi; exact bd2
            have r1 := rmk c (a := a) (b := n) (k := 400) n0 Bn (by decide) hm
            have zq : Sz 400 (Rat.divInt a n) := Sz.di Ba Bn n0
            have rs := rstr_ok c zq m
            have ww : w = itxt a ++ "/" ++ itxt n := by
              rw [ew, tl_inj (readW_some q), tl_inj (readW_some q2)]
            have iff := wtxt_is (a := a) n0
            rw [← ww] at iff
            have gW := gN (wtxt (Rat.divInt a n)) w
            have iQ : insOf m (rat c (Rat.divInt a n)) = some (c.cRatio, nsRatio, [.int (Rat.divInt a n).num, .int (Rat.divInt a n).den]) := rfl
            by_cases cnd : 2 ≤ n ∧ (Rat.divInt a n).num = a ∧ ((Rat.divInt a n).den : Int) = n
            · have : specB a (some n) = some (Rat.divInt a n) := by unfold specB; exact if_pos cnd
              rw [this]
              rw [decide_eq_true (iff.mpr cnd)] at gW
              show _ = Res.ok (rat c (Rat.divInt a n)) m
              obtain ⟨Q, hQ⟩ : ∃ Q, rat c (Rat.divInt a n) = Q := ⟨_, rfl⟩
              obtain ⟨T, hT⟩ : ∃ Q, wtxt (Rat.divInt a n) = Q := ⟨_, rfl⟩
              rw [hQ] at r1 rs iQ ⊢
              rw [hT] at rs gW
              simp [F_Ratio_read, env0, ans_str, Ans.get, tagOf, primNames, -gLen_ap, gl, b2, s1, wl, hp, gS, wf, wb, gIsN, gEq, scEq, n0, r1, dOwnStr, methAt, iQ, rs, gW, hz]
            · have : specB a (some n) = none := by unfold specB; exact if_neg cnd
              rw [this]
              rw [decide_eq_false (fun h => cnd (iff.mp h))] at gW
              obtain ⟨Q, hQ⟩ : ∃ Q, rat c (Rat.divInt a n) = Q := ⟨_, rfl⟩
              obtain ⟨T, hT⟩ : ∃ Q, wtxt (Rat.divInt a n) = Q := ⟨_, rfl⟩
              rw [hQ] at r1 rs iQ
              rw [hT] at rs gW
              simp [F_Ratio_read, env0, ans_str, Ans.get, tagOf, primNames, -gLen_ap, gl, b2, s1, wl, hp, gS, wf, wb, gIsN, gEq, scEq, n0, r1, dOwnStr, methAt, iQ, rs, gW, er, rdR, badX, hz]
end W
set_option maxHeartbeats 8000000
namespace W
open PySem PySem.Spec L2 DL
theorem gEq_pair (a b x y : Int) (m : Mu) : gEq (.tup [.int a, .int b]) (.tup [.int x, .int y]) m = .ok (.bl (decide (a = x ∧ b = y))) m := by
  have e : PyData.eqv (.tuple [.int a, .int b]) (.tuple [.int x, .int y]) = decide (a = x ∧ b = y) := by
    by_cases h1 : a = x
    · by_cases h2 : b = y
      · simp [PyData.eqv, PyData.eqvAll, h1, h2]
      · simp [PyData.eqv, PyData.eqvAll, h1, h2]
    · simp [PyData.eqv, PyData.eqvAll, h1]
  exact gEq_py rfl rfl rfl rfl e
theorem sign48 (k : Nat) : ((⟨#[k]⟩ : Str) = "0") ↔ k = 48 := by
  have z : tl ("0" : Str) = [48] := by decide +kernel
  constructor
  · intro h
    have := congrArg tl h
    rw [z] at this
    have h2 : [k] = [48] := this
    simpa using h2
  · intro h
    apply tl_inj
    rw [z, h]
theorem rin_step (c : Cs) {w : Str} (hl : w.length ≤ 600) (m : Mu) (x0 x1 x2 x3 x4 x6 x7 : Option D) : B_w_ratio_in_1 c [x0, x1, x2, x3, x4, some (.str w), x6, x7] m = if canon (tl w) = true then .nx [x0, x1, x2, x3, x4, some (.str w), x6, x7] m else .rt .non m := by
  have hz : sizeLine = 16777216 := rfl
  have gE : ∀ a b : Str, gEq (.str a) (.str b) m = .ok (.bl (decide (a = b))) m := fun a b => by simp [gEq, scEq]
  have cm := digs_comp (b := C_w_ratio_in_1 c) (e0 := [x0, x1, x2, x3, x4, some (.str w), none, x7]) (mk := fun x => [x0, x1, x2, x3, x4, some (.str w), x, x7]) w (by omega) (m := m) (i := 6) (fun d => by simp) (fun k => by simp [C_w_ratio_in_1_ap, occ_dig])
  obtain ⟨cs, hw⟩ : ∃ cs, tl w = cs := ⟨_, rfl⟩
  rw [hw] at cm ⊢
  have ga := all_digs cs m
  obtain ⟨BL, hBL⟩ : ∃ X, (cs.map fun k => D.bl (dig k)) = X := ⟨_, rfl⟩
  rw [hBL] at cm ga
  have gM := gE w ""
  obtain ⟨N, hN⟩ : ∃ N : Int, (w.length : Int) = N := ⟨_, rfl⟩
  have gl : gLen [.str w] m = .ok (.int N) m := by rw [← hN]; simp [gLen]; omega
  have nl : N = cs.length := by rw [← hN, ← hw, tl_len]
  cases cs with
  | nil =>
    rw [decide_eq_true ((is_empty w).mpr hw)] at gM
    have : canon [] = false := rfl
    rw [this]
    simp [B_w_ratio_in_1_ap, gM]
  | cons k t =>
    rw [decide_eq_false (fun h => by have := (is_empty w).mp h; rw [hw] at this; cases this)] at gM
    have ix : gIx (.str w) (.int 0) m = .ok (.str ⟨#[k]⟩) m := by
      have wl : w.length ≤ 16777216 := by omega
      have e : atI (tl w) 0 = some k := by rw [hw]; simp [atI, ixN]
      simp only [gIx]
      simp [hz, wl, show w.cps.toList = tl w from rfl, hw]
    have g0 := gE ⟨#[k]⟩ "0"
    by_cases a1 : (k :: t).all dig = true
    · rw [a1] at ga
      by_cases l1 : 1 < (k :: t).length
      · have n1 : 1 < N := by omega
        by_cases k48 : k = 48
        · rw [decide_eq_true ((sign48 k).mpr k48)] at g0
          have : canon (k :: t) = false := by
            cases q : canon (k :: t) with
            | false => rfl
            | true => exact absurd (by rw [k48]; rfl) ((canon_iff.mp q).hd l1)
          rw [this]
          simp [B_w_ratio_in_1_ap, gM, cm, ga, -gAll_ap, -gLen_ap, gl, n1, ix, g0, wipeE, hz]
        · rw [decide_eq_false (fun h => k48 ((sign48 k).mp h))] at g0
          have : canon (k :: t) = true := canon_iff.mpr ⟨by simp, a1, fun _ h => k48 (by simpa using h)⟩
          rw [this]
          simp [B_w_ratio_in_1_ap, gM, cm, ga, -gAll_ap, -gLen_ap, gl, n1, ix, g0, wipeE, hz]
      · have n1 : ¬ 1 < N := by omega
        have : canon (k :: t) = true := canon_iff.mpr ⟨by simp, a1, fun h => absurd h l1⟩
        rw [this]
        simp [B_w_ratio_in_1_ap, gM, cm, ga, -gAll_ap, -gLen_ap, gl, n1, wipeE, hz]
    · have a0 : (k :: t).all dig = false := by
        cases q : (k :: t).all dig with
        | false => rfl
        | true => exact absurd q a1
      rw [a0] at ga
      have : canon (k :: t) = false := canon_false fun h => a1 h.2
      rw [this]
      simp [B_w_ratio_in_1_ap, gM, cm, ga, -gAll_ap, wipeE, hz]
end W
set_option maxHeartbeats 8000000
namespace W
open PySem PySem.Spec L2 DL
def oD : Option Rat → D
  | none => .non
  | some q => fr q
structure Front (f D : Str) (a : Int) : Prop where
  int : PySem.intText? f = some a
  rd : readW (tl f) = if f = "-0" then none else some a
theorem dzero : tl ("-0" : Str) = [45, 48] := by decide +kernel
theorem front_ok {f D : Str} (hl : f.length ≤ 600) (hD : (∃ cs, tl f = 45 :: cs ∧ tl D = cs) ∨ ((¬ ∃ cs, tl f = 45 :: cs) ∧ D = f)) : (canon (tl D) = false → readW (tl f) = none) ∧ (canon (tl D) = true → ∃ a, Front f D a) := by
  rcases hD with ⟨cs, h1, h2⟩ | ⟨h1, rfl⟩
  · rw [h2]
    have rd : readW (tl f) = if canon cs = true ∧ cs ≠ [48] then some (-(vl cs : Int)) else none := by rw [h1]; rfl
    refine ⟨fun h => by rw [rd, h]; rfl, fun h => ?_⟩
    have cc := canon_iff.mp h
    refine ⟨-((vl cs : Nat) : Int), int_neg h1 (by omega) cc.ne cc.dg, ?_⟩
    rw [rd]
    by_cases z : cs = [48]
    · rw [if_neg (fun k => k.2 z), if_pos (tl_inj (by rw [h1, z, dzero]))]
    · rw [if_pos ⟨h, z⟩, if_neg (fun k => z (by have := congrArg tl k; rw [h1, dzero] at this; simpa using this))]
  · have rd : readW (tl D) = if canon (tl D) = true then some ((vl (tl D) : Nat) : Int) else none := by
      cases e : tl D with
      | nil => rfl
      | cons k t =>
        have k45 : k ≠ 45 := fun z => h1 ⟨t, by rw [e, z]⟩
        show (if k = 45 then (if canon t = true ∧ t ≠ [48] then some (-(vl t : Int)) else none) else (if canon (k :: t) = true then some (vl (k :: t) : Int) else none)) = _
        rw [if_neg k45]
    refine ⟨fun h => by rw [rd, h]; rfl, fun h => ?_⟩
    have cc := canon_iff.mp h
    refine ⟨((vl (tl D) : Nat) : Int), int_pos (by omega) cc.ne cc.dg, ?_⟩
    rw [rd, if_pos h, if_neg (fun k => h1 ⟨[48], by rw [k, dzero]⟩)]
theorem specB_neg {a : Int} {b : Str} (h : canon (tl b) = false) : specB a (readW (tl b)) = none := by
  cases q : readW (tl b) with
  | none => rfl
  | some n =>
    unfold specB
    refine if_neg fun k => ?_
    cases e : tl b with
    | nil => rw [e] at q; cases q
    | cons c t =>
      rw [e] at q h
      have q : (if c = 45 then (if canon t = true ∧ t ≠ [48] then some (-(vl t : Int)) else none) else (if canon (c :: t) = true then some (vl (c :: t) : Int) else none)) = some n := q
      by_cases hc : c = 45
      · rw [if_pos hc] at q
        split at q
        · cases q; omega
        · cases q
      · rw [if_neg hc, h] at q
        cases q
theorem behind_ok {b : Str} (hl : b.length ≤ 600) (h : canon (tl b) = true) : PySem.intText? b = some ((vl (tl b) : Nat) : Int) ∧ readW (tl b) = some ((vl (tl b) : Nat) : Int) ∧ (b ∈ [("0" : Str), "1"] ↔ vl (tl b) < 2) := by
  have cc := canon_iff.mp h
  have z0 : tl ("0" : Str) = [48] := by decide +kernel
  have z1 : tl ("1" : Str) = [49] := by decide +kernel
  refine ⟨int_pos (by omega) cc.ne cc.dg, ?_, ?_⟩
  · cases e : tl b with
    | nil => exact absurd e cc.ne
    | cons k t =>
      rw [e] at h cc
      have k45 : k ≠ 45 := fun z => by
        have := dig_all cc.dg k (by simp)
        omega
      show (if k = 45 then (if canon t = true ∧ t ≠ [48] then some (-(vl t : Int)) else none) else (if canon (k :: t) = true then some (vl (k :: t) : Int) else none)) = _
      rw [if_neg k45, if_pos h]
  · have cn := canon_num' cc
    constructor
    · intro hb
      simp only [List.mem_cons, List.not_mem_nil, or_false] at hb
      rcases hb with rfl | rfl
      · rw [z0]; decide
      · rw [z1]; decide
    · intro hb
      rw [List.mem_cons, List.mem_singleton]
      by_cases v0 : vl (tl b) = 0
      · left
        apply tl_inj
        rw [z0, ← cn, v0]; decide +kernel
      · right
        apply tl_inj
        rw [z1, ← cn, show vl (tl b) = 1 by omega]; decide +kernel
theorem ratio_in_ok (c : Cs) {w : Str} (hl : w.length ≤ 500) (m : Mu) : F_w_ratio_in c [.str w] m = .ok (oD (specR w)) m := by
  have hz : sizeLine = 16777216 := rfl
  have wl : w.length ≤ 16777216 := by omega
  have gE : ∀ a b : Str, gEq (.str a) (.str b) m = .ok (.bl (decide (a = b))) m := fun a b => by simp [gEq, scEq]
  have s1 : ("/" : Str).length = 1 := by decide +kernel
  obtain ⟨N, hN⟩ : ∃ N : Int, (w.length : Int) = N := ⟨_, rfl⟩
  have gl : gLen [.str w] m = .ok (.int N) m := by rw [← hN]; simp [gLen]; omega
  have sne : ¬ ("" : Str) = "/" := fun h => by
    have := congrArg tl h
    rw [tl_empty, slash] at this
    cases this
  have key : ∀ (f s b : Str), Txt.partition w "/" = (f, s, b) → f.length ≤ w.length → b.length ≤ w.length → (s = "/" ∨ (s = "" ∧ b = "")) → F_w_ratio_in c [.str w] m = .ok (oD (specR w)) m := fun f s b hp lf lb hs => by
    have fl : f.length ≤ 16777216 := by omega
    have gD := gE (cutS f none (some 1)) "-"
    obtain ⟨Dg, hDg, hD2⟩ : ∃ Dg : Str, (if cutS f none (some 1) = "-" then cutS f (some 1) none else f) = Dg ∧ ((∃ cs, tl f = 45 :: cs ∧ tl Dg = cs) ∨ ((¬ ∃ cs, tl f = 45 :: cs) ∧ Dg = f)) := by
      by_cases h : ∃ cs, tl f = 45 :: cs
      · obtain ⟨cs, h2⟩ := h
        exact ⟨_, rfl, .inl ⟨cs, h2, by rw [if_pos ((is_dash f).mpr ⟨cs, h2⟩), cut2, h2]; rfl⟩⟩
      · exact ⟨_, rfl, .inr ⟨h, if_neg fun k => h ((is_dash f).mp k)⟩⟩
    have lD : Dg.length ≤ 600 := by
      rcases hD2 with ⟨cs, h1, h2⟩ | ⟨_, h2⟩
      · have k1 := congrArg List.length h1
        rw [tl_len, List.length_cons] at k1
        rw [← tl_len, h2]; omega
      · rw [h2]; omega
    have FO := front_ok (f := f) (D := Dg) (by omega) hD2
    have rf := fun x0 x1 x2 x3 x4 x6 x7 => rin_step c (w := Dg) lD m x0 x1 x2 x3 x4 x6 x7
    have rb := fun x0 x1 x2 x3 x4 x6 x7 => rin_step c (w := b) (by omega) m x0 x1 x2 x3 x4 x6 x7
    have hs2 : (s = "/") ∨ (¬ s = "/" ∧ b = "") := by
      rcases hs with h | ⟨h, k⟩
      · exact .inl h
      · exact .inr ⟨by rw [h]; exact sne, k⟩
    have gS := gE s "/"
    have gF := gE f "-0"
    obtain ⟨cf, hcf⟩ : ∃ x, canon (tl Dg) = x := ⟨_, rfl⟩
    obtain ⟨cb, hcb⟩ : ∃ x, canon (tl b) = x := ⟨_, rfl⟩
    rw [hcf] at rf
    rw [hcb] at rb
    rw [hcf] at FO
    have f6 : f.length ≤ 640 := by omega
    have b6 : b.length ≤ 640 := by omega
    have spE : specR w = if 100 < w.length then none else specA (f, s, b) (readW (tl f)) := by unfold specR; rw [hp]
    rw [spE]
    have gB : (gEq (.str (cutS f none (some 1))) (.str "-") m = .ok (.bl true) m ∧ cutS f (some 1) none = Dg) ∨ (gEq (.str (cutS f none (some 1))) (.str "-") m = .ok (.bl false) m ∧ f = Dg) := by
      by_cases dd : cutS f none (some 1) = "-"
      · rw [decide_eq_true dd] at gD
        rw [if_pos dd] at hDg
        exact .inl ⟨gD, hDg⟩
      · rw [decide_eq_false dd] at gD
        rw [if_neg dd] at hDg
        exact .inr ⟨gD, hDg⟩
    clear gD
    have fin : ∀ B : Bool, gEq (.str (cutS f none (some 1))) (.str "-") m = .ok (.bl B) m → (if B = true then cutS f (some 1) none else f) = Dg → F_w_ratio_in c [.str w] m = .ok (oD (if 100 < w.length then none else specA (f, s, b) (readW (tl f)))) m := fun B gD hD1 => by
      cases cf with
      | false =>
        rw [FO.1 rfl]
        have : (if 100 < w.length then none else specA (f, s, b) none) = none := by split <;> rfl
        rw [this]
        rcases hs2 with h | ⟨h, k⟩
        · rw [decide_eq_true h] at gS
          cases B <;> simp at hD1 <;> subst hD1 <;> simp [F_w_ratio_in, env0, dLoop, hp, wl, s1, hz, fl, gD, gS, rf, oD]
        · rw [decide_eq_false h] at gS
          cases B <;> simp at hD1 <;> subst hD1 <;> simp [F_w_ratio_in, env0, dLoop, hp, wl, s1, hz, fl, gD, gS, rf, oD]
      | true =>
        obtain ⟨a, fa⟩ := FO.2 rfl
        have ia := fa.int
        have ra := fa.rd
        by_cases big : 100 < w.length
        · rw [if_pos big]
          have b2 : 100 < N := by omega
          rcases hs2 with h | ⟨h, k⟩
          · rw [decide_eq_true h] at gS
            cases cb with
            | false => cases B <;> simp at hD1 <;> subst hD1 <;> simp [F_w_ratio_in, env0, dLoop, hp, wl, s1, hz, fl, gD, gS, rf, rb, oD]
            | true => cases B <;> simp at hD1 <;> subst hD1 <;> simp [F_w_ratio_in, env0, dLoop, hp, wl, s1, hz, fl, gD, gS, rf, rb, oD, -gLen_ap, gl, b2]
          · rw [decide_eq_false h] at gS
            cases B <;> simp at hD1 <;> subst hD1 <;> simp [F_w_ratio_in, env0, dLoop, hp, wl, s1, hz, fl, gD, gS, rf, oD, -gLen_ap, gl, b2]
        · rw [if_neg big]
          have b2 : ¬ 100 < N := by omega
          by_cases f0 : f = "-0"
          · rw [ra, if_pos f0]
            rw [decide_eq_true f0] at gF
            have : specA (f, s, b) none = none := rfl
            rw [this]
            rcases hs2 with h | ⟨h, k⟩
            · rw [decide_eq_true h] at gS
              cases cb with
              | false => cases B <;> simp at hD1 <;> subst hD1 <;> simp [F_w_ratio_in, env0, dLoop, hp, wl, s1, hz, fl, gD, gS, rf, rb, oD]
              | true => cases B <;> simp at hD1 <;> subst hD1 <;> simp [F_w_ratio_in, env0, dLoop, hp, wl, s1, hz, fl, gD, gS, rf, rb, oD, -gLen_ap, gl, b2, gF]
            · rw [decide_eq_false h] at gS
              cases B <;> simp at hD1 <;> subst hD1 <;> simp [F_w_ratio_in, env0, dLoop, hp, wl, s1, hz, fl, gD, gS, rf, oD, -gLen_ap, gl, b2, gF]
          · rw [ra, if_neg f0]
            rw [decide_eq_false f0] at gF
            rcases hs2 with h | ⟨h, k⟩
            · rw [decide_eq_true h] at gS
              have sa : specA (f, s, b) (some a) = specB a (readW (tl b)) := by unfold specA; exact if_pos h
              rw [sa]
              cases cb with
              | false =>
                rw [specB_neg hcb]
                cases B <;> simp at hD1 <;> subst hD1 <;> simp [F_w_ratio_in, env0, dLoop, hp, wl, s1, hz, fl, gD, gS, rf, rb, oD]
              | true =>
                have bh := behind_ok (b := b) (by omega) hcb
                have gI := gIn_strs b ["0", "1"] m
                simp only [List.map_cons, List.map_nil] at gI
                rw [bh.2.1]
                obtain ⟨n, hn⟩ : ∃ n : Nat, vl (tl b) = n := ⟨_, rfl⟩
                rw [hn] at bh ⊢
                have ib := bh.1
                by_cases n2 : n < 2
                · rw [decide_eq_true (bh.2.2.mpr n2)] at gI
                  have : specB a (some ((n : Nat) : Int)) = none := by unfold specB; exact if_neg (fun h => by omega)
                  rw [this]
                  cases B <;> simp at hD1 <;> subst hD1 <;> simp [F_w_ratio_in, env0, dLoop, hp, wl, s1, hz, fl, gD, gS, rf, rb, oD, -gLen_ap, gl, b2, gF, -orD_ap, gI]
                · rw [decide_eq_false (fun h => n2 (bh.2.2.mp h))] at gI
                  have bd2 := readW_bd bh.2.1 (by rw [tl_len]; omega)
                  have Bn : Bi 400 ((n : Nat) : Int) := by unfold Bi; exact bd2
                  have fR := fracR c (a := a) (b := ((n : Nat) : Int)) (by omega) Bn (by decide) m
                  obtain ⟨M, hM⟩ : ∃ M : Int, ((n : Nat) : Int) = M := ⟨_, rfl⟩
                  rw [hM] at fR ib ⊢
                  unfold fr at fR
                  have gP := gEq_pair (Rat.divInt a M).num ((Rat.divInt a M).den : Int) a M m
                  obtain ⟨u, hu⟩ : ∃ u, (Rat.divInt a M).num = u := ⟨_, rfl⟩
                  obtain ⟨v, hv⟩ : ∃ v : Int, ((Rat.divInt a M).den : Int) = v := ⟨_, rfl⟩
                  by_cases cnd : u = a ∧ v = M
                  · have : specB a (some M) = some (Rat.divInt a M) := by show (if 2 ≤ M ∧ (Rat.divInt a M).num = a ∧ ((Rat.divInt a M).den : Int) = M then some (Rat.divInt a M) else none) = _; rw [hu, hv]; exact if_pos ⟨by omega, cnd.1, cnd.2⟩
                    rw [this]
                    have of : oD (some (Rat.divInt a M)) = .tup [.int a, .int M] := by
                      show D.tup [.int (Rat.divInt a M).num, .int ((Rat.divInt a M).den : Int)] = _
                      rw [hu, hv, cnd.1, cnd.2]
                    rw [of]
                    rw [hu, hv] at gP fR
                    rw [decide_eq_true cnd] at gP
                    cases B <;> simp at hD1 <;> subst hD1 <;> simp [F_w_ratio_in, env0, dLoop, hp, wl, s1, hz, fl, gD, gS, rf, rb, -gLen_ap, gl, b2, gF, -orD_ap, gI, ia, ib, f6, b6, fR, gP]
                  · have : specB a (some M) = none := by show (if 2 ≤ M ∧ (Rat.divInt a M).num = a ∧ ((Rat.divInt a M).den : Int) = M then some (Rat.divInt a M) else none) = _; rw [hu, hv]; exact if_neg (fun h => cnd h.2)
                    rw [this]
                    rw [hu, hv] at gP fR
                    rw [decide_eq_false cnd] at gP
                    cases B <;> simp at hD1 <;> subst hD1 <;> simp [F_w_ratio_in, env0, dLoop, hp, wl, s1, hz, fl, gD, gS, rf, rb, oD, -gLen_ap, gl, b2, gF, -orD_ap, gI, ia, ib, f6, b6, fR, gP]
            · rw [decide_eq_false h] at gS
              have sa : specA (f, s, b) (some a) = some (a : Rat) := by unfold specA; exact if_neg h
              rw [sa]
              have fR := fracR c (a := a) (b := 1) (by omega) (k := 400) (by unfold Bi; decide +kernel) (by decide) m
              have e1 : Rat.divInt a 1 = (a : Rat) := by rw [Rat.divInt_eq_div]; show (a : Rat) / ((1 : Int) : Rat) = _; rw [Rat.div_def]; grind
              rw [e1] at fR
              have of : fr ((a : Int) : Rat) = .tup [.int a, .int 1] := by
                show D.tup [.int ((a : Int) : Rat).num, .int (((a : Int) : Rat).den : Int)] = _
                rw [Rat.num_intCast, Rat.den_intCast]; rfl
              have gP := gEq_pair a 1 a 1 m
              rw [decide_eq_true ⟨rfl, rfl⟩] at gP
              show _ = Res.ok (fr (a : Rat)) m
              rw [of] at fR ⊢
              cases B <;> simp at hD1 <;> subst hD1 <;> simp [F_w_ratio_in, env0, dLoop, hp, wl, s1, hz, fl, gD, gS, rf, -gLen_ap, gl, b2, gF, ia, f6, fR, gP]
    rcases gB with ⟨g, h⟩ | ⟨g, h⟩
    · exact fin true g h
    · exact fin false g h
  rcases cut_cases w with ⟨h47, hp⟩ | ⟨f, b, ew, h47, hp⟩
  · exact key w "" "" hp (by omega) (by have : ("" : Str).length = 0 := by decide +kernel
                                        omega) (.inr ⟨rfl, rfl⟩)
  · have := congrArg Str.length ew
    rw [Str.length_append, Str.length_append, s1] at this
    exact key f "/" b hp (by omega) (by omega) (.inl rfl)
end W
set_option maxHeartbeats 8000000
namespace W
open PySem PySem.Spec L2 DL
theorem numL_len : ∀ (k n : Nat), n < 10 ^ (k + 1) → (TL.numL n).length ≤ k + 1
  | 0, n, h => by rw [TL.numL_lt (by simpa using h)]; simp
  | k + 1, n, h => by
    by_cases z : n < 10
    · rw [TL.numL_lt z]; simp
    · rw [TL.numL_step (by omega), List.length_append]
      have := numL_len k (n / 10) (by rw [Nat.pow_succ] at h; omega)
      simp; omega
theorem itxt_short {n : Int} (h : Bi 100 n) : (itxt n).length ≤ 32 := by
  have h : n.natAbs < 2 ^ 100 := h
  have h2 : (2 : Nat) ^ 100 < 10 ^ 31 := by decide +kernel
  rw [← tl_len]
  obtain ⟨k, rfl | rfl⟩ := Int.eq_nat_or_neg n
  · rw [itxt_nat]
    have := numL_len 30 k (by omega)
    omega
  · by_cases z : k = 0
    · subst z; show (tl (itxt 0)).length ≤ 32; decide +kernel
    · rw [itxt_neg (by omega), List.length_cons]
      have := numL_len 30 k (by omega)
      omega
theorem wtxt_short {q : Rat} (h : Sz 100 q) : (wtxt q).length ≤ 65 := by
  have h1 := itxt_short h.n
  have h2 := itxt_short h.bd
  have s1 : ("/" : Str).length = 1 := by decide +kernel
  unfold wtxt
  split
  · omega
  · rw [Str.length_append, Str.length_append, s1]; omega
theorem spec_wtxt {q : Rat} (h : Sz 100 q) : specR (wtxt q) = some q := by
  have l := wtxt_short h
  have sne : ¬ ("" : Str) = "/" := fun h => by
    have := congrArg tl h
    rw [tl_empty, slash] at this
    cases this
  unfold specR
  rw [if_neg (by omega)]
  by_cases d1 : q.den = 1
  · have e : wtxt q = itxt q.num := by unfold wtxt; rw [if_pos d1]
    rw [e]
    rcases cut_cases (itxt q.num) with ⟨h47, hp⟩ | ⟨f, b, ew, _, _⟩
    · rw [hp]
      dsimp only
      rw [readW_itxt]
      unfold specA
      dsimp only
      rw [if_neg sne]
      congr 1
      exact Rat.ext (by rw [Rat.num_intCast]) (by rw [Rat.den_intCast, d1])
    · exfalso
      have k := itxt_free q.num
      rw [ew, tl_app, tl_app, slash] at k
      exact k (by simp)
  · have e : wtxt q = itxt q.num ++ "/" ++ itxt q.den := by unfold wtxt; rw [if_neg d1]
    rw [e]
    rw [TL.partition_app (S := []) slash (itxt_free q.num)]
    dsimp only
    rw [readW_itxt]
    unfold specA
    dsimp only
    rw [if_pos rfl, readW_itxt]
    unfold specB
    dsimp only
    have di : Rat.divInt q.num q.den = q := by rw [Rat.divInt_ofNat]; exact Rat.mkRat_self q
    rw [di, if_pos ⟨by have := q.den_pos; omega, rfl, rfl⟩]
theorem cutS_le (w : Str) (i j : Option Int) : (cutS w i j).length ≤ w.length := by
  rw [← tl_len, ← tl_len]
  show (((tl w).drop _).take _).length ≤ _
  rw [List.length_take, List.length_drop]
  omega
theorem one_str (c : Cs) {m : Mu} (hb : BagOk m) {s : Str} (h0 : 0 < s.length) (hl : s.length < 1000) : ∃ k m', F_w_one c [.loc 0, .str s] m = .ok (.str ⟨#[k]⟩) m' ∧ Bgs m m' := by
  have hz : sizeLine = 16777216 := rfl
  obtain ⟨v, m', e, h1, h2, h3⟩ := take_ok c hb (n := s.length) (by omega) (by omega)
  obtain ⟨j, rfl⟩ := Int.eq_ofNat_of_zero_le h1
  obtain ⟨N, hN⟩ : ∃ N : Int, (s.length : Int) = N := ⟨_, rfl⟩
  have gl : ∀ m, gLen [.str s] m = .ok (.int N) m := fun m => by rw [← hN]; simp [gLen]; omega
  have wl : s.length ≤ 16777216 := by omega
  have jl : j < (tl s).length := by rw [tl_len]; omega
  have ix : ∀ m, gIx (.str s) (.int (j : Int)) m = .ok (.str ⟨#[(tl s)[j]]⟩) m := fun m => by
    have e : atI (tl s) (j : Int) = some (tl s)[j] := by rw [DL.atI_nat]; simp [jl]
    simp only [gIx]
    simp only [show s.cps.toList = tl s from rfl, e]
    simp [hz, wl]
  rw [hN] at e
  exact ⟨(tl s)[j], m', by simp [F_w_one, env0, -gLen_ap, gl, e, ix], h3⟩
theorem mut_ok (c : Cs) {w : Str} (hl : w.length ≤ 500) {m : Mu} (hb : BagOk m) : ∃ w' m', Bgs m m' ∧ w'.length + 1 ≤ 2 * (w.length + 1) ∧ ∀ g x0 x2 x3 x5 x6 x7 x8 x9 x10 x11 x12, ∃ y6 y7 y8, B_law_1 c g [x0, some (.loc 0), x2, x3, some (.str w), x5, x6, x7, x8, x9, x10, x11, x12] m = .nx [x0, some (.loc 0), x2, x3, some (.str w'), x5, y6, y7, y8, x9, x10, x11, x12] m' := by
  have hz : sizeLine = 16777216 := rfl
  obtain ⟨v, m1, e1, v0, v1, g1⟩ := take_ok c hb (n := w.length + 1) (by omega) (by omega)
  have b1 := g1.bag hb
  obtain ⟨u, m2, e2, u0, u1, g2⟩ := take_ok c b1 (n := 3) (by decide) (by decide)
  have b2 := g2.bag b1
  obtain ⟨k, m3, e3, g3⟩ := one_str c b2 (s := "0123/- .a") (by decide +kernel) (by decide +kernel)
  have wl : w.length ≤ 16777216 := by omega
  obtain ⟨N, hN⟩ : ∃ N : Int, (w.length : Int) = N := ⟨_, rfl⟩
  have gl : ∀ m, gLen [.str w] m = .ok (.int N) m := fun m => by rw [← hN]; simp [gLen]; omega
  rw [hN] at e1
  obtain ⟨S, hS⟩ : ∃ x : Str, ⟨#[k]⟩ = x := ⟨_, rfl⟩
  have sl : S.length = 1 := by rw [← hS]; rfl
  rw [hS] at e3
  obtain ⟨C1, h1⟩ : ∃ x : Str, cutS w none (some v) = x := ⟨_, rfl⟩
  obtain ⟨C2, h2⟩ : ∃ x : Str, cutS w (some v) none = x := ⟨_, rfl⟩
  obtain ⟨C3, h3⟩ : ∃ x : Str, cutS w (some (v + 1)) none = x := ⟨_, rfl⟩
  have l1 : C1.length ≤ w.length := by rw [← h1]; exact cutS_le ..
  have l2 : C2.length ≤ w.length := by rw [← h2]; exact cutS_le ..
  have l3 : C3.length ≤ w.length := by rw [← h3]; exact cutS_le ..
  have em : ("" : Str).length = 0 := by decide +kernel
  have z1 : C1.length ≤ 16777216 := by omega
  have z2 : C1.length + 1 ≤ 16777216 := by omega
  have z3 : C1.length + C3.length ≤ 16777216 := by omega
  have z4 : C1.length + 1 + C2.length ≤ 16777216 := by omega
  have z5 : C1.length + 1 + C3.length ≤ 16777216 := by omega
  by_cases w0 : u = 0
  · subst w0
    refine ⟨C1 ++ "" ++ C3, m3, (g1.trans g2).trans g3, by rw [Str.length_append, Str.length_append, em]; omega, fun g x0 x2 x3 x5 x6 x7 x8 x9 x10 x11 x12 => ⟨some (.int v), some (.int 0), some (.str S), ?_⟩⟩
    simp [B_law_1_ap, -gLen_ap, gl, e1, e2, e3, h1, h2, h3, wl, hz, Str.length_append, em, z1, z2, z3, z4, z5, sl]
  · by_cases w1 : u = 1
    · subst w1
      refine ⟨C1 ++ S ++ C2, m3, (g1.trans g2).trans g3, by rw [Str.length_append, Str.length_append, sl]; omega, fun g x0 x2 x3 x5 x6 x7 x8 x9 x10 x11 x12 => ⟨some (.int v), some (.int 1), some (.str S), ?_⟩⟩
      simp [B_law_1_ap, -gLen_ap, gl, e1, e2, e3, h1, h2, h3, wl, hz, Str.length_append, em, z1, z2, z3, z4, z5, sl]
    · refine ⟨C1 ++ S ++ C3, m3, (g1.trans g2).trans g3, by rw [Str.length_append, Str.length_append, sl]; omega, fun g x0 x2 x3 x5 x6 x7 x8 x9 x10 x11 x12 => ⟨some (.int v), some (.int u), some (.str S), ?_⟩⟩
      simp [B_law_1_ap, -gLen_ap, gl, e1, e2, e3, h1, h2, h3, wl, hz, Str.length_append, em, z1, z2, z3, z4, z5, sl, w0, w1]
theorem muts_ok (c : Cs) : ∀ (ds : List D) {w : Str} {m : Mu}, BagOk m → 2 ^ ds.length * (w.length + 1) ≤ 500 → ∃ w' m', (BagOk m' ∧ (Cl m → Cl m')) ∧ w'.length ≤ 500 ∧ ∀ g x0 x2 x3 x5 x6 x7 x8 x9 x10 x11 x12, ∃ y5 y6 y7 y8, dLoop (dName 5) (B_law_1 c g) ds [x0, some (.loc 0), x2, x3, some (.str w), x5, x6, x7, x8, x9, x10, x11, x12] m = .nx [x0, some (.loc 0), x2, x3, some (.str w'), y5, y6, y7, y8, x9, x10, x11, x12] m'
  | [], w, m, hb, hl => ⟨w, m, ⟨hb, id⟩, by simp at hl; omega, fun g x0 x2 x3 x5 x6 x7 x8 x9 x10 x11 x12 => ⟨_, _, _, _, rfl⟩⟩
  | d :: ds, w, m, hb, hl => by
    rw [List.length_cons, Nat.pow_succ] at hl
    have p1 : 1 ≤ 2 ^ ds.length := Nat.one_le_two_pow
    have h1 : 1 * (w.length + 1) ≤ 2 ^ ds.length * 2 * (w.length + 1) := Nat.mul_le_mul_right _ (by omega)
    obtain ⟨w1, m1, g1, l1, k1⟩ := mut_ok c (w := w) (by omega) hb
    have h2 := Nat.mul_le_mul_left (2 ^ ds.length) l1
    obtain ⟨w2, m2, g2, l2, k2⟩ := muts_ok c ds (w := w1) (g1.bag hb) (by rw [← Nat.mul_assoc] at h2; omega)
    refine ⟨w2, m2, ⟨g2.1, fun h => g2.2 (g1.cl h)⟩, l2, fun g x0 x2 x3 x5 x6 x7 x8 x9 x10 x11 x12 => ?_⟩
    obtain ⟨y6, y7, y8, a1⟩ := k1 g x0 x2 x3 (some d) x6 x7 x8 x9 x10 x11 x12
    obtain ⟨z5, z6, z7, z8, a2⟩ := k2 g x0 x2 x3 (some d) y6 y7 y8 x9 x10 x11 x12
    exact ⟨z5, z6, z7, z8, (dLoop_step (by simp) a1).trans a2⟩
end W
set_option maxHeartbeats 8000000
namespace W
open PySem PySem.Spec L2 DL
def badS : List Str := ["", "-", "/", "1/", "/2", "2/4", "-0", "0/1", "0/2", "1/1", "1/-2", "+1", "01", "1/02", " 1", "1 ", "1/2/3", "1.0", "--1", "1\n"]
def badO : List D := [.non, .int 1, .bl true, .tup [.str "1"], .lst [.str "1"]]
theorem dFor_is26 {t : DA} {g : DG} {b : DS} {e : En} {m m1 : Mu} {ds : List D} {r : RS} (h : t e m = .ok ds m1) (k : dLoop g b ds e m1 = r) : dFor t g b e m = r := by
  unfold dFor; rw [h]; exact k
theorem badS_ok : ∀ w ∈ badS, (specR w).isNone = true ∧ w.length ≤ 500 := by decide +kernel
theorem rep_ok : (specR (repS 101 "9")).isNone = true ∧ (repS 101 "9").length ≤ 500 := by decide +kernel
theorem rep100 : specR (repS 100 "9") = some ((10 ^ 100 - 1 : Int) : Rat) ∧ (repS 100 "9").length ≤ 500 := by
  exact ⟨by decide +kernel, by decide +kernel⟩
theorem read_no (c : Cs) {d : D} (h : d ∈ badO) {m : Mu} (hm : Cl m) : F_Ratio_read c [.val (.ref c.cRatio), d] m = .exc c.cInvalidRatio (badX d) m := by
  simp only [badO, List.mem_cons, List.not_mem_nil, or_false] at h
  have hb : below m.length d = true := by rcases h with rfl | rfl | rfl | rfl | rfl <;> rfl
  have er := fun e => raise_InvalidRatio c d (m := m) e hm hb
  simp [padF] at er
  rcases h with rfl | rfl | rfl | rfl | rfl <;> simp [F_Ratio_read, env0, ans_str, Ans.get, tagOf, primNames, er, badX, below, belows]
def badR : List D := badS.map .str ++ (badO ++ [.str (repS 101 "9")])
theorem read_badR (c : Cs) {d : D} (h : d ∈ badR) {m : Mu} (hm : Cl m) : F_Ratio_read c [.val (.ref c.cRatio), d] m = .exc c.cInvalidRatio (badX d) m := by
  have st : ∀ w : Str, (specR w).isNone = true ∧ w.length ≤ 500 → F_Ratio_read c [.val (.ref c.cRatio), .str w] m = .exc c.cInvalidRatio (badX (.str w)) m := fun w hw => by
    rw [read_ok c hw.2 hm, Option.isNone_iff_eq_none.mp hw.1]
    rfl
  simp only [badR, List.mem_append, List.mem_map, List.mem_singleton] at h
  rcases h with ⟨w, hw, rfl⟩ | h | rfl
  · exact st w (badS_ok w hw)
  · exact read_no c h hm
  · exact st _ rep_ok
theorem bad_below6 {d : D} (h : d ∈ badR) (n : Nat) : below n d = true := by
  simp only [badR, badO, List.mem_append, List.mem_map, List.mem_singleton, List.mem_cons, List.not_mem_nil, or_false] at h
  rcases h with ⟨w, hw, rfl⟩ | (rfl | rfl | rfl | rfl | rfl) | rfl <;> rfl
theorem bad_plain6 {d : D} (h : d ∈ badR) (n : Nat) : plainD (n + 2) d := by
  simp only [badR, badO, List.mem_append, List.mem_map, List.mem_singleton, List.mem_cons, List.not_mem_nil, or_false] at h
  rcases h with ⟨w, hw, rfl⟩ | (rfl | rfl | rfl | rfl | rfl) | rfl <;> simp [plainD, sizeLine]
theorem try_bad (c : Cs) {d : D} (h : d ∈ badR) {m : Mu} (hm : Cl m) : F_w_try c [.clo 1 [d]] m = .ok (.tup [.str "InvalidRatio", .tup [d]]) m :=
  try_InvalidRatio c (k := 1) (G := L_1 c) rfl hm (by simp only [belows, bad_below6 h, Bool.and_self]) rfl rfl (v := d) (m1 := m) (by
    have e := read_badR c h hm
    show L_1 c [d] m = _
    simp [L_1_ap, padF, e, badX])
def toldD (c : Cs) (w : Str) : Option Rat → D
  | none => .tup [.str w]
  | some q => rat c q
def codeD : Option Rat → Str
  | none => "InvalidRatio"
  | some _ => ""
theorem try_read (c : Cs) {w : Str} (hl : w.length ≤ 500) {m : Mu} (hm : Cl m) : F_w_try c [.clo 0 [.str w]] m = .ok (.tup [.str (codeD (specR w)), toldD c w (specR w)]) m := by
  have e := read_ok c hl hm
  cases q : specR w with
  | none =>
    rw [q] at e
    exact try_InvalidRatio c (k := 0) (G := L_0 c) rfl hm rfl rfl rfl (v := .str w) (m1 := m) (by
      show L_0 c [.str w] m = _
      simp [L_0_ap, padF, e, badX, rdR])
  | some r =>
    rw [q] at e
    exact try_ret c (k := 0) (G := L_0 c) rfl hm rfl rfl rfl (d := rat c r) (m1 := m) (by
      show L_0 c [.str w] m = _
      simp [L_0_ap, padF, e, rdR])
def Inv06 (e : En) : Prop := ∃ x0 x2 x3 x4 x5 x6 x7 x8 x9 x10 x11 x12, e = [x0, some (.loc 0), x2, x3, x4, x5, x6, x7, x8, x9, x10, x11, x12]
theorem body_ok (c : Cs) (d0 : D) (m : Mu) (hh : BagOk m ∧ Cl m) : ∃ m2, (BagOk m2 ∧ Cl m2) ∧ ∀ g e, Inv06 e → ∃ e1 e2, dName 2 d0 e = some e1 ∧ B_law_2 c g e1 m = .nx e2 m2 ∧ Inv06 e2 := by
  have hz : sizeLine = 16777216 := rfl
  obtain ⟨hb, hc⟩ := hh
  obtain ⟨q, m1, e1, hq, g1⟩ := any_frac_ok c hb
  have b1 := g1.bag hb
  have c1 := g1.cl hc
  obtain ⟨u, m2, e2, u0, u1, g2⟩ := take_ok c b1 (n := 2) (by decide) (by decide)
  have b2 := g2.bag b1
  have c2 := g2.cl c1
  have wsh := wtxt_short hq
  obtain ⟨ds, hds, dl⟩ : ∃ ds, rngD 0 (1 + u).toNat = ds ∧ ds.length ≤ 2 := by
    refine ⟨_, rfl, ?_⟩
    have : u = 0 ∨ u = 1 := by omega
    rcases this with rfl | rfl <;> decide
  obtain ⟨w, m3, ⟨b3, k3⟩, wl, lp⟩ := muts_ok c ds (w := wtxt q) b2 (by
    have h2 : 2 ^ ds.length ≤ 2 ^ 2 := Nat.pow_le_pow_right (by decide) dl
    have h3 := Nat.mul_le_mul h2 (show (wtxt q).length + 1 ≤ 66 by omega)
    omega)
  have c3 := k3 c2
  obtain ⟨d, m4, e4, hd, g4⟩ := one_ok c b3 (ds := badR) (by simp [badR, badS]) (by simp [badR, badS, badO])
  have b4 := g4.bag b3
  have c4 := g4.cl c3
  have ri := ratio_in_ok c wl m3
  have tr := try_read c wl c3
  have tb := try_bad c hd c4
  have rw1 := read_ok c (w := wtxt q) (by omega) c1
  rw [spec_wtxt hq] at rw1
  have rw1 : F_Ratio_read c [.val (.ref c.cRatio), .str (wtxt q)] m1 = .ok (rat c q) m1 := rw1
  have rs := rstr_ok c hq m1
  have wo := word_ok c (a := q.num) (b := q.den) hq.n hq.bd (by have := q.den_pos; omega) m1
  have di : Rat.divInt q.num q.den = q := by rw [Rat.divInt_ofNat]; exact Rat.mkRat_self q
  rw [di] at wo
  have po := parts_ok c q m1
  have lk1 := like_refl c m1 8 (.lst [fr q, .str (wtxt q)]) (by simp [plainD, hz, fr])
  have lkd := like_refl c m4 8 (.tup [.str "InvalidRatio", .tup [d]]) (by
    have := bad_plain6 hd 4
    simp [plainD, hz, this])
  have hB1 : below m4.length d = true := bad_below6 hd _
  have ix0 : gIx (fr q) (.int 0) m1 = .ok (.int q.num) m1 := rfl
  have ix1 : gIx (fr q) (.int 1) m1 = .ok (.int q.den) m1 := rfl
  have iQ : insOf m1 (rat c q) = some (c.cRatio, nsRatio, [.int q.num, .int q.den]) := rfl
  have gl0 : List.lookup 0 lr_law = some [4] := rfl
  have gl1 : List.lookup 1 lr_law = some [12] := rfl
  clear hd dl hq
  have bE : badR = [.str "", .str "-", .str "/", .str "1/", .str "/2", .str "2/4", .str "-0", .str "0/1", .str "0/2", .str "1/1", .str "1/-2", .str "+1", .str "01", .str "1/02", .str " 1", .str "1 ", .str "1/2/3", .str "1.0", .str "--1", .str "1\n", .non, .int 1, .bl true, .tup [.str "1"], .lst [.str "1"], .str (repS 101 "9")] := rfl
  rw [bE] at e4
  have r9 : gRepS (.str "9") (.int 101) m3 = .ok (.str (repS 101 "9")) m3 := by
    rw [gRepS_ap, if_pos (by decide +kernel)]
  obtain ⟨W9, hW9⟩ : ∃ x, repS 101 "9" = x := ⟨_, rfl⟩
  rw [hW9] at e4 r9
  refine ⟨m4, ⟨b4, c4⟩, fun g e he => ?_⟩
  obtain ⟨x0, x2, x3, x4, x5, x6, x7, x8, x9, x10, x11, x12, rfl⟩ := he
  suffices h : ∃ e2, B_law_2 c g [x0, some (.loc 0), some d0, x3, x4, x5, x6, x7, x8, x9, x10, x11, x12] m = .nx e2 m4 ∧ Inv06 e2 by
    obtain ⟨e2, h1, h2⟩ := h
    exact ⟨_, e2, by simp, h1, h2⟩
  have bT : below m3.length (.tup [.str (codeD (specR w)), toldD c w (specR w)]) = true := by cases specR w <;> rfl
  rw [B_law_2_ap]
  obtain ⟨Q, hQ⟩ : ∃ x, rat c q = x := ⟨_, rfl⟩
  obtain ⟨FQ, hFQ⟩ : ∃ x, fr q = x := ⟨_, rfl⟩
  obtain ⟨WQ, hWQ⟩ : ∃ x, wtxt q = x := ⟨_, rfl⟩
  simp only [hQ, hFQ, hWQ] at rw1 rs wo po lk1 e1 ix0 ix1 iQ lp
  obtain ⟨y5, y6, y7, y8, lp1⟩ := lp g x0 (some d0) (some FQ) x5 x6 x7 x8 x9 x10 x11 x12
  refine NXe (by (conv => lhs; simp [e1]) <;> rfl) ?_
  refine NXe (by (conv => lhs; simp [ix0, ix1, wo]) <;> rfl) ?_
  refine NXe (by (conv => lhs; simp [rw1, po, dOwnStr, methAt, iQ, rs, GC_Ratio_Ratio_read_text, DL.pick, lk1, hz]) <;> rfl) ?_
  refine NXe (dFor_is26 (ds := ds) (m1 := m2) (by simp [e2, hds, show (-4611686018427387904 : Int) ≤ 1 + u from by omega, show 1 + u < (4611686018427387904 : Int) from by omega]) lp1) ?_
  refine NXe (by (conv => lhs; simp [ri]) <;> rfl) ?_
  refine NXe (by (conv => lhs; simp [closeDs, closeD, slotV, gl0, closeR, c3, tr, bT, belows]) <;> rfl) ?_
  have gNN : ∀ a b : Str, gNe (.str a) (.str b) m3 = .ok (.bl (!decide (a = b))) m3 := fun a b => by simp [gNe, scEq]
  have T1 : ∃ e2, (dIfS (dAndT (dTst (dBin gIsN (dVar 9) (dC .non))) (dNotT (dTst (dFun (padF 2 [] (F_w_like c 8)) (dCons (dTup (dCons (dVar 10) (dCons (dVar 11) dNil))) (dCons (dTup (dCons (dC (.str "InvalidRatio")) (dCons (dTup (dCons (dVar 4) dNil)) dNil))) dNil)))))) (dRet (dC (.bl false))) dSkip) [x0, some (.loc 0), some d0, some FQ, some (.str w), y5, y6, y7, y8, some (oD (specR w)), some (.str (codeD (specR w))), some (toldD c w (specR w)), x12] m3 = .nx e2 m3 ∧ e2 = [x0, some (.loc 0), some d0, some FQ, some (.str w), y5, y6, y7, y8, some (oD (specR w)), some (.str (codeD (specR w))), some (toldD c w (specR w)), x12] := by
    cases specR w with
    | none =>
      have lk := like_refl c m3 8 (.tup [.str "InvalidRatio", .tup [.str w]]) (by simp [plainD, hz])
      exact ⟨_, by simp [oD, codeD, toldD, gIsN, lk, hz], rfl⟩
    | some r =>
      refine ⟨_, ?_, rfl⟩
      have : oD (some r) = .tup [.int r.num, .int r.den] := rfl
      rw [this]
      simp [gIsN]
  obtain ⟨_, T1, rfl⟩ := T1
  refine NXe T1 ?_
  have T2 : ∃ e2, (dIfS (dAndT (dTst (dBin gNotN (dVar 9) (dC .non))) (dOrT (dTst (dBin gNe (dVar 10) (dC (.str "")))) (dNotT (dTst (dFun (padF 2 [] (F_w_like c 8)) (dCons (dFun (padF 1 [] (F_w_parts c)) (dCons (dVar 11) dNil)) (dCons (dVar 9) dNil))))))) (dRet (dC (.bl false))) dSkip) [x0, some (.loc 0), some d0, some FQ, some (.str w), y5, y6, y7, y8, some (oD (specR w)), some (.str (codeD (specR w))), some (toldD c w (specR w)), x12] m3 = .nx e2 m3 ∧ e2 = [x0, some (.loc 0), some d0, some FQ, some (.str w), y5, y6, y7, y8, some (oD (specR w)), some (.str (codeD (specR w))), some (toldD c w (specR w)), x12] := by
    cases specR w with
    | none => exact ⟨_, by simp [oD, gNotN], rfl⟩
    | some r =>
      refine ⟨_, ?_, rfl⟩
      have e1 : oD (some r) = .tup [.int r.num, .int r.den] := rfl
      have of : fr r = .tup [.int r.num, .int r.den] := rfl
      have e2 : codeD (some r) = "" := rfl
      have e3 : toldD c w (some r) = rat c r := rfl
      have lk := like_refl c m3 8 (fr r) (by simp [plainD, hz, fr])
      have po2 := parts_ok c r m3
      have gW := gNN "" ""
      rw [decide_eq_true rfl] at gW
      rw [e1, e2, e3]
      obtain ⟨R, hR⟩ : ∃ x, rat c r = x := ⟨_, rfl⟩
      rw [of] at lk po2
      rw [hR] at po2 ⊢
      simp [gNotN, gW, po2, lk]
  obtain ⟨_, T2, rfl⟩ := T2
  refine NXe T2 ?_
  refine NXe (by (conv => lhs; simp [-gRepS_ap, r9, e4, hz]) <;> rfl) ?_
  refine ⟨_, by (conv => lhs; simp [closeDs, closeD, slotV, gl1, closeR, c4, tb, hB1, below, belows, lkd, hz]) <;> rfl, _, _, _, _, _, _, _, _, _, _, _, _, rfl⟩
theorem int100 : PySem.intText? (repS 100 "9") = some (10 ^ 100 - 1) := by decide +kernel
theorem law_true (c : Cs) (hc : c.Ok) (ns : List Int) (hl : ns.length ≤ 63) : ∃ m, F_law c [.lst (ns.map .int)] [] = .ok (.bl true) m := by
  have hz : sizeLine = 16777216 := rfl
  obtain ⟨m0, e0, b0, c0⟩ := begin_ok c ns hl
  obtain ⟨m1, ⟨_, c1⟩, h1⟩ := loop_allG (G := dName 2) (b := B_law_2 c) (E := Inv06) (M := fun m => BagOk m ∧ Cl m) (rngD 0 10) m0 (fun d _ m h => body_ok c d m h) ⟨b0, c0⟩
  refine ⟨m1, ?_⟩
  unfold F_law
  refine allG_eq fun g => ?_
  obtain ⟨e2, h2, x0, x2, x3, x4, x5, x6, x7, x8, x9, x10, x11, x12, rfl⟩ := h1 g [some (.lst (ns.map .int)), some (.loc 0), none, none, none, none, none, none, none, none, none, none, none] ⟨_, _, _, _, _, _, _, _, _, _, _, _, rfl⟩
  have rd := read_ok c rep100.2 c1
  rw [rep100.1] at rd
  obtain ⟨N, hN⟩ : ∃ N : Int, 10 ^ 100 - 1 = N := ⟨_, rfl⟩
  have it := int100
  rw [hN] at rd it
  have rd : F_Ratio_read c [.val (.ref c.cRatio), .str (repS 100 "9")] m1 = .ok (rat c (N : Rat)) m1 := rd
  have po := parts_ok c (N : Rat) m1
  have of : fr ((N : Int) : Rat) = .tup [.int N, .int 1] := by
    show D.tup [.int ((N : Int) : Rat).num, .int (((N : Int) : Rat).den : Int)] = _
    rw [Rat.num_intCast, Rat.den_intCast]; rfl
  have lk := like_refl c m1 8 (.tup [.int N, .int 1]) (by simp [plainD, hz])
  rw [of] at po
  have r9 : gRepS (.str "9") (.int 100) m1 = .ok (.str (repS 100 "9")) m1 := by
    rw [gRepS_ap, if_pos (by decide +kernel)]
  have l9 : (repS 100 "9").length ≤ 640 := by have := rep100.2; omega
  obtain ⟨W9, hW9⟩ : ∃ x, repS 100 "9" = x := ⟨_, rfl⟩
  rw [hW9] at rd it r9 l9
  obtain ⟨Q, hQ⟩ : ∃ x, rat c (N : Rat) = x := ⟨_, rfl⟩
  rw [hQ] at rd po
  simp [D_law, env0, e0, h2, -gRepS_ap, r9, rd, po, it, l9, lk, hz]
end W

set_option maxHeartbeats 0
namespace W
open PySem PySem.Spec L2 DL
theorem facts {w : World} {K : PySem.W.Frag} {h : Heap} {mg : Str → Option Value} {fa : Addr} (c : Q0.Says h K) (G : h.Ns mainGlobals mg) (hfa : mg ("law" : Str) = some (.ref fa)) :
    ∃ (fd : FuncData) (cc : Cs), cc.Ok ∧ (∀ (s : Shared) (v : Value), BindsTo s fd ⟨[v], []⟩ [("_law_script", v)]) ∧ ∀ base : Heap, K.In base → base.Ns mainGlobals mg → (∀ y ∈ Q0.ms, LamX.TabB base mg (codeA K (He.ga K y)) (tabA K (He.ga K y))) → FnD PySem.Challenge.rw_bothgreen_k06_whole_texts_of_ratios.prog w K mg base 17 fa fd ["_law_script"] (F_law cc) := by
  have X := c.kin
  obtain ⟨fd0, F0⟩ := c.df 0 (d := dk0) rfl
  obtain ⟨fd1, F1⟩ := c.df 1 (d := dk1) rfl
  obtain ⟨fd2, F2⟩ := c.df 2 (d := dk2) rfl
  obtain ⟨fd3, F3⟩ := c.df 3 (d := dk3) rfl
  obtain ⟨fd4, F4⟩ := c.df 4 (d := dk4) rfl
  obtain ⟨fd5, F5⟩ := c.df 5 (d := dk5) rfl
  obtain ⟨fd6, F6⟩ := c.df 6 (d := dk6) rfl
  obtain ⟨sd0, S0⟩ := c.sf (P := PySem.Challenge.rw_bothgreen_k06_whole_texts_of_ratios.prog) 0 (d := dS0) rfl rfl
  obtain ⟨sd1, S1⟩ := c.sf (P := PySem.Challenge.rw_bothgreen_k06_whole_texts_of_ratios.prog) 1 (d := dS1) rfl rfl
  obtain ⟨fd7, F7⟩ := c.df 7 (d := dk7) rfl
  obtain ⟨fd8, F8⟩ := c.df 8 (d := dk8) rfl
  obtain ⟨fd9, F9⟩ := c.df 9 (d := dk9) rfl
  obtain ⟨fd10, F10⟩ := c.df 10 (d := dk10) rfl
  obtain ⟨fd11, F11⟩ := c.df 11 (d := dk11) rfl
  obtain ⟨fd12, F12⟩ := c.df 12 (d := dk12) rfl
  obtain ⟨fd13, F13⟩ := c.df 13 (d := dk13) rfl
  obtain ⟨fd14, F14⟩ := c.df 14 (d := dk14) rfl
  obtain ⟨fd15, F15⟩ := c.df 15 (d := dk15) rfl
  obtain ⟨fd16, F16⟩ := c.df 16 (d := dk16) rfl
  obtain ⟨fd17, F17⟩ := c.df 17 (d := dk17) rfl
  obtain ⟨fd18, F18⟩ := c.df 18 (d := dk18) rfl
  obtain ⟨fd19, F19⟩ := c.df 19 (d := dk19) rfl
  obtain ⟨fd20, F20⟩ := c.df 20 (d := dk20) rfl
  obtain ⟨fd21, F21⟩ := c.df 21 (d := dk21) rfl
  have e := hfa.symm.trans (He.glo_ok X G (c.fact 46 (f := q46) rfl))
  cases e
  have b := FunD.bindsA (ps := ["_law_script"]) F21 fun _ _ _ _ _ _ us hl => match us, hl with | [_], _ => rfl
  have htop : (PySem.Challenge.rw_bothgreen_k06_whole_texts_of_ratios.prog.main.scope.names.lookup ("super" : Str)).isSome = false := by kernel_rfl
  refine ⟨fd21, ⟨(He.ga K "CycleError"), (He.ga K "InvalidRatio"), (He.ga K "Missing"), (He.ga K "NothingLeft"), (He.ga K "Ratio")⟩, ⟨(of_decide_eq_true (show decide ((He.ga K "CycleError") ≠ (He.ga K "InvalidRatio")) = true from (c.fact 178 (f := q178) rfl))), (of_decide_eq_true (show decide ((He.ga K "CycleError") ≠ (He.ga K "Missing")) = true from (c.fact 179 (f := q179) rfl))), (of_decide_eq_true (show decide ((He.ga K "InvalidRatio") ≠ (He.ga K "Missing")) = true from (c.fact 180 (f := q180) rfl))), (of_decide_eq_true (show decide ((He.ga K "CycleError") ≠ (He.ga K "NothingLeft")) = true from (c.fact 181 (f := q181) rfl))), (of_decide_eq_true (show decide ((He.ga K "InvalidRatio") ≠ (He.ga K "NothingLeft")) = true from (c.fact 182 (f := q182) rfl))), (of_decide_eq_true (show decide ((He.ga K "Missing") ≠ (He.ga K "NothingLeft")) = true from (c.fact 183 (f := q183) rfl))), (of_decide_eq_true (show decide ((He.ga K "CycleError") ≠ (He.ga K "Ratio")) = true from (c.fact 184 (f := q184) rfl))), (of_decide_eq_true (show decide ((He.ga K "InvalidRatio") ≠ (He.ga K "Ratio")) = true from (c.fact 185 (f := q185) rfl))), (of_decide_eq_true (show decide ((He.ga K "Missing") ≠ (He.ga K "Ratio")) = true from (c.fact 186 (f := q186) rfl))), (of_decide_eq_true (show decide ((He.ga K "NothingLeft") ≠ (He.ga K "Ratio")) = true from (c.fact 187 (f := q187) rfl))), trivial⟩, fun s v => b s [v] rfl, fun base _ _ hT => ?_⟩
  have T : Txt PySem.Challenge.rw_bothgreen_k06_whole_texts_of_ratios.prog K mg base ⟨(He.ga K "CycleError"), (He.ga K "InvalidRatio"), (He.ga K "Missing"), (He.ga K "NothingLeft"), (He.ga K "Ratio")⟩ := {
    sup := ⟨htop, He.free_ok X G (c.fact 0 (f := q0) rfl), (show PySem.W.nsIn K cStatics "thirdparty.any" = some none from He.eqO_ok (c.fact 1 (f := q1) rfl))⟩
    fn_w_begin := ⟨_, _, He.glo_ok X G (c.fact 2 (f := q2) rfl), F0⟩
    fn_w_take := ⟨_, _, He.glo_ok X G (c.fact 3 (f := q3) rfl), F1⟩
    fn_w_one := ⟨_, _, He.glo_ok X G (c.fact 4 (f := q4) rfl), F2⟩
    fn_w_divisor := ⟨_, _, He.glo_ok X G (c.fact 5 (f := q5) rfl), F3⟩
    fn_w_frac := ⟨_, _, He.glo_ok X G (c.fact 6 (f := q6) rfl), F4⟩
    fn_w_any_frac := ⟨_, _, He.glo_ok X G (c.fact 7 (f := q7) rfl), F5⟩
    fn_w_word := ⟨_, _, He.glo_ok X G (c.fact 8 (f := q8) rfl), F6⟩
    me_CycleErrorD_initD := ⟨_, _, _, (show PySem.W.findIn K (.ref (He.ga K "CycleError")) "__init__" = some (some (.ref (He.ma K (He.ga K "CycleError") "__init__"))) from He.eqO_ok (c.fact 9 (f := q9) rfl)), (show PySem.W.isFn K (.ref (He.ma K (He.ga K "CycleError") "__init__")) = true from (c.fact 10 (f := q10) rfl)), (of_decide_eq_true (show decide (PySem.W.typeIn K (.ref (He.ma K (He.ga K "CycleError") "__init__")) = some (.type "function")) = true from (c.fact 11 (f := q11) rfl))), (show PySem.W.fnIn K (He.ma K (He.ga K "CycleError") "__init__") = true from (c.fact 12 (f := q12) rfl)), ⟨(show PySem.W.ks_superIn K (He.ga K "InvalidRatio") (He.ga K "InvalidRatio") "__init__" = some (some (.ref (He.ma K (He.ga K "CycleError") "__init__"))) from He.eqO_ok (c.fact 13 (f := q13) rfl)), (of_decide_eq_true (show decide (PySem.W.mroIn K (He.ga K "InvalidRatio") (.ref (He.ga K "InvalidRatio")) = some true) = true from (c.fact 14 (f := q14) rfl)))⟩, S0⟩
    me_InvalidRatioD_initD := ⟨_, _, _, (show PySem.W.findIn K (.ref (He.ga K "InvalidRatio")) "__init__" = some (some (.ref (He.ma K (He.ga K "InvalidRatio") "__init__"))) from He.eqO_ok (c.fact 15 (f := q15) rfl)), (show PySem.W.isFn K (.ref (He.ma K (He.ga K "InvalidRatio") "__init__")) = true from (c.fact 16 (f := q16) rfl)), (of_decide_eq_true (show decide (PySem.W.typeIn K (.ref (He.ma K (He.ga K "InvalidRatio") "__init__")) = some (.type "function")) = true from (c.fact 17 (f := q17) rfl))), (show PySem.W.fnIn K (He.ma K (He.ga K "InvalidRatio") "__init__") = true from (c.fact 18 (f := q18) rfl)), S1⟩
    fn_whole_in := ⟨_, _, He.glo_ok X G (c.fact 19 (f := q19) rfl), F7⟩
    fn_is_whole := ⟨_, _, He.glo_ok X G (c.fact 20 (f := q20) rfl), F8⟩
    fn_common_divisor := ⟨_, _, He.glo_ok X G (c.fact 21 (f := q21) rfl), F9⟩
    me_RatioD_initD := ⟨_, _, (show PySem.W.findIn K (.ref (He.ga K "Ratio")) "__init__" = some (some (.ref (He.ma K (He.ga K "Ratio") "__init__"))) from He.eqO_ok (c.fact 22 (f := q22) rfl)), (show PySem.W.isFn K (.ref (He.ma K (He.ga K "Ratio") "__init__")) = true from (c.fact 23 (f := q23) rfl)), F10⟩
    me_RatioD_strD := ⟨_, _, (show PySem.W.findIn K (.ref (He.ga K "Ratio")) "__str__" = some (some (.ref (He.ma K (He.ga K "Ratio") "__str__"))) from He.eqO_ok (c.fact 24 (f := q24) rfl)), (show PySem.W.isFn K (.ref (He.ma K (He.ga K "Ratio") "__str__")) = true from (c.fact 25 (f := q25) rfl)), F11⟩
    cm_Ratio_read := ⟨_, _, _, (show PySem.W.readsIn K (He.ga K "Ratio") (.type "type") = true from (c.fact 26 (f := q26) rfl)), (show PySem.W.specialIn K (.ref (He.ga K "Ratio")) "__getattribute__" = some (some (.builtin "type.__getattribute__")) from He.eqO_ok (c.fact 27 (f := q27) rfl)), clmB_ok (c.fact 28 (f := q28) rfl), recB_ok (c.fact 29 (f := q29) rfl), (show PySem.W.fnIn K (recFn K "classmethod" (staP K "Ratio" "read")) = true from (c.fact 30 (f := q30) rfl)), F12⟩
    pr_Ratio_bottom := ⟨_, _, _, ⟨(show PySem.W.findIn K (.ref (He.ga K "Ratio")) "bottom" = some (some (.ref (He.ma K (He.ga K "Ratio") "bottom"))) from He.eqO_ok (c.fact 34 (f := q34) rfl)), (show PySem.W.specialIn K (.ref (He.ma K (He.ga K "Ratio") "bottom")) "__get__" = some (some (.builtin "property.__get__")) from He.eqO_ok (c.fact 31 (f := q31) rfl)), (of_decide_eq_true (show decide (PySem.W.takesIn K (.ref (He.ma K (He.ga K "Ratio") "bottom")) = some true) = true from (c.fact 32 (f := q32) rfl))), (recB_ok (c.fact 33 (f := q33) rfl))⟩, F13⟩
    pr_Ratio_top := ⟨_, _, _, ⟨(show PySem.W.findIn K (.ref (He.ga K "Ratio")) "top" = some (some (.ref (He.ma K (He.ga K "Ratio") "top"))) from He.eqO_ok (c.fact 38 (f := q38) rfl)), (show PySem.W.specialIn K (.ref (He.ma K (He.ga K "Ratio") "top")) "__get__" = some (some (.builtin "property.__get__")) from He.eqO_ok (c.fact 35 (f := q35) rfl)), (of_decide_eq_true (show decide (PySem.W.takesIn K (.ref (He.ma K (He.ga K "Ratio") "top")) = some true) = true from (c.fact 36 (f := q36) rfl))), (recB_ok (c.fact 37 (f := q37) rfl))⟩, F14⟩
    fn_w_parts := ⟨_, _, He.glo_ok X G (c.fact 39 (f := q39) rfl), F15⟩
    me_RatioD_eqD := ⟨_, _, (show PySem.W.findIn K (.ref (He.ga K "Ratio")) "__eq__" = some (some (.ref (He.ma K (He.ga K "Ratio") "__eq__"))) from He.eqO_ok (c.fact 40 (f := q40) rfl)), (show PySem.W.isFn K (.ref (He.ma K (He.ga K "Ratio") "__eq__")) = true from (c.fact 41 (f := q41) rfl)), F16⟩
    fn_w_like := ⟨_, _, He.glo_ok X G (c.fact 42 (f := q42) rfl), F17⟩
    fn_w_ratio_in := ⟨_, _, He.glo_ok X G (c.fact 43 (f := q43) rfl), F18⟩
    fn_w_field := ⟨_, _, He.glo_ok X G (c.fact 44 (f := q44) rfl), F19⟩
    fn_w_try := ⟨_, _, He.glo_ok X G (c.fact 45 (f := q45) rfl), F20⟩
    fn_law := ⟨_, _, He.glo_ok X G (c.fact 46 (f := q46) rfl), ⟨(codeB_ok (c.ms "law" (List.mem_of_getElem? (i := 0) rfl)).1).1, hT "law" (List.mem_of_getElem? (i := 0) rfl), List.mem_of_getElem? (i := 0) rfl, fun p hp _ => by rw [List.mem_singleton.mp hp]⟩, F21⟩
    b_abs := He.free_ok X G (c.fact 47 (f := q47) rfl)
    b_all := He.free_ok X G (c.fact 48 (f := q48) rfl)
    b_bool := He.free_ok X G (c.fact 49 (f := q49) rfl)
    b_int := He.free_ok X G (c.fact 50 (f := q50) rfl)
    b_isinstance := He.free_ok X G (c.fact 51 (f := q51) rfl)
    b_len := He.free_ok X G (c.fact 52 (f := q52) rfl)
    b_list := He.free_ok X G (c.fact 53 (f := q53) rfl)
    b_range := He.free_ok X G (c.fact 54 (f := q54) rfl)
    b_str := He.free_ok X G (c.fact 55 (f := q55) rfl)
    b_tuple := He.free_ok X G (c.fact 56 (f := q56) rfl)
    b_zip := He.free_ok X G (c.fact 57 (f := q57) rfl)
    g_FIGURES := He.str_ok X G (c.fact 58 (f := q58) rfl)
    g_LONGEST_TEXT := He.int_ok X G (c.fact 59 (f := q59) rfl)
    gc_CycleError := He.glo_ok X G (c.fact 60 (f := q60) rfl)
    gc_InvalidRatio := He.glo_ok X G (c.fact 61 (f := q61) rfl)
    gc_Missing := He.glo_ok X G (c.fact 62 (f := q62) rfl)
    gc_NothingLeft := He.glo_ok X G (c.fact 63 (f := q63) rfl)
    cl_Ratio := (He.cls_ok (c.fact 64 (f := q64) rfl))
    gc_Ratio := He.glo_ok X G (c.fact 65 (f := q65) rfl)
    ox_InvalidRatio := ⟨⟨_, _, _, _, xb_VE, (show PySem.W.excInitIn K (He.ga K "InvalidRatio") [.type "ValueError", .type "Exception", .type "BaseException", .type "object"] "ValueError.__new__" = true from (c.fact 66 (f := q66) rfl))⟩, (show PySem.W.hasDictIn K (He.ga K "InvalidRatio") = true from (c.fact 67 (f := q67) rfl)), (show PySem.W.findIn K (.ref (He.ga K "InvalidRatio")) "__setattr__" = some (some (.builtin "object.__setattr__")) from He.eqO_ok (c.fact 68 (f := q68) rfl)), (of_decide_eq_true (show decide (PySem.W.subIn K (.ref (He.ga K "InvalidRatio")) (.type "BaseException") = some true) = true from (c.fact 69 (f := q69) rfl))), (of_decide_eq_true (show decide (PySem.W.typeIn K (.ref (He.ga K "InvalidRatio")) = some (.type "type")) = true from (c.fact 70 (f := q70) rfl))), (show PySem.W.keepIn K (.ref (He.ga K "InvalidRatio")) = true from (c.fact 71 (f := q71) rfl))⟩
    xf_InvalidRatio := xfB_ok (c.fact 72 (f := q72) rfl)
    nx_InvalidRatio_code := (show PySem.W.findIn K (.ref (He.ga K "InvalidRatio")) "code" = some none from He.eqO_ok (c.fact 73 (f := q73) rfl))
    nx_InvalidRatio_given := (show PySem.W.findIn K (.ref (He.ga K "InvalidRatio")) "given" = some none from He.eqO_ok (c.fact 74 (f := q74) rfl))
    sb_InvalidRatio_CycleError := ⟨_, _, _, _, xb_VE, (show PySem.W.excInitIn K (He.ga K "InvalidRatio") [.type "ValueError", .type "Exception", .type "BaseException", .type "object"] "ValueError.__new__" = true from (c.fact 75 (f := q75) rfl)), (show PySem.W.ks_superIn K (He.ga K "InvalidRatio") (He.ga K "CycleError") "__init__" = some (some (.builtin "ValueError.__init__")) from He.eqO_ok (c.fact 76 (f := q76) rfl)), (of_decide_eq_true (show decide (PySem.W.mroIn K (He.ga K "InvalidRatio") (.ref (He.ga K "CycleError")) = some true) = true from (c.fact 77 (f := q77) rfl))), (of_decide_eq_true (show decide (PySem.W.subIn K (.ref (He.ga K "InvalidRatio")) (.type "ValueError") = some true) = true from (c.fact 78 (f := q78) rfl)))⟩
    xm_CycleError_Missing_NothingLeft_InvalidRatio := (of_decide_eq_true (show decide (PySem.W.exmAny K (.ref (He.ga K "InvalidRatio")) [.ref (He.ga K "CycleError"), .ref (He.ga K "Missing"), .ref (He.ga K "NothingLeft")] = some true) = true from (c.fact 79 (f := q79) rfl)))
    mk_Ratio := ⟨(show PySem.W.makesIn K (He.ga K "Ratio") = true from (c.fact 80 (f := q80) rfl)), (show PySem.W.keepIn K (.ref (He.ga K "Ratio")) = true from (c.fact 81 (f := q81) rfl))⟩
    fl_Ratio_own_bottom := ⟨(He.cls_ok (c.fact 64 (f := q64) rfl)), He.noat_ok (c.fact 82 (f := q82) rfl), (show nsRatio[1]? = some ("own_bottom" : Str) from by decide +kernel), (show ("own_bottom" : Str) ∉ nsRatio.take 1 from by decide +kernel)⟩
    fl_Ratio_own_top := ⟨(He.cls_ok (c.fact 64 (f := q64) rfl)), He.noat_ok (c.fact 83 (f := q83) rfl), (show nsRatio[0]? = some ("own_top" : Str) from by decide +kernel), (show ("own_top" : Str) ∉ nsRatio.take 0 from by decide +kernel)⟩
    in_Ratio := ⟨(He.cls_ok (c.fact 64 (f := q64) rfl)), (show PySem.W.findIn K (.ref (He.ga K "Ratio")) "__class__" = some (some (.builtin "object.__class__")) from He.eqO_ok (c.fact 86 (f := q86) rfl)), (show PySem.W.specialIn K (.builtin "object.__class__") "__get__" = some (some (.builtin "getset_descriptor.__get__")) from He.eqO_ok (c.fact 84 (f := q84) rfl)), (of_decide_eq_true (show decide (PySem.W.takesIn K (.builtin "object.__class__") = some true) = true from (c.fact 85 (f := q85) rfl))), (of_decide_eq_true (show decide (PySem.W.mroIn K (He.ga K "Ratio") (.type "object") = some true) = true from (c.fact 87 (f := q87) rfl)))⟩
    nf_Ratio_primNoneType := (show PySem.W.notFirst K (He.ga K "Ratio") (.type "NoneType") = true from (c.fact 88 (f := q88) rfl))
    nf_Ratio_primbool := (show PySem.W.notFirst K (He.ga K "Ratio") (.type "bool") = true from (c.fact 89 (f := q89) rfl))
    nf_Ratio_primint := (show PySem.W.notFirst K (He.ga K "Ratio") (.type "int") = true from (c.fact 90 (f := q90) rfl))
    nf_Ratio_primlist := (show PySem.W.notFirst K (He.ga K "Ratio") (.type "list") = true from (c.fact 91 (f := q91) rfl))
    nf_Ratio_primstr := (show PySem.W.notFirst K (He.ga K "Ratio") (.type "str") = true from (c.fact 92 (f := q92) rfl))
    nf_Ratio_primtuple := (show PySem.W.notFirst K (He.ga K "Ratio") (.type "tuple") = true from (c.fact 93 (f := q93) rfl))
    ans_Ratio := by
      refine ⟨fun n hn => ?_, fun p hp => ?_⟩
      · simp only [primNames, List.mem_cons, List.not_mem_nil, or_false] at hn
        rcases hn with rfl | rfl | rfl | rfl | rfl | rfl
        · exact (of_decide_eq_true (show decide (PySem.W.kitAny K (.type "NoneType") [.ref (He.ga K "Ratio")] = some false) = true from (c.fact 94 (f := q94) rfl)))
        · exact (of_decide_eq_true (show decide (PySem.W.kitAny K (.type "bool") [.ref (He.ga K "Ratio")] = some false) = true from (c.fact 95 (f := q95) rfl)))
        · exact (of_decide_eq_true (show decide (PySem.W.kitAny K (.type "int") [.ref (He.ga K "Ratio")] = some false) = true from (c.fact 96 (f := q96) rfl)))
        · exact (of_decide_eq_true (show decide (PySem.W.kitAny K (.type "str") [.ref (He.ga K "Ratio")] = some false) = true from (c.fact 97 (f := q97) rfl)))
        · exact (of_decide_eq_true (show decide (PySem.W.kitAny K (.type "tuple") [.ref (He.ga K "Ratio")] = some false) = true from (c.fact 98 (f := q98) rfl)))
        · exact (of_decide_eq_true (show decide (PySem.W.kitAny K (.type "list") [.ref (He.ga K "Ratio")] = some false) = true from (c.fact 99 (f := q99) rfl)))
      · simp only [ans_Ratio, List.mem_cons, List.not_mem_nil, or_false] at hp
    ans_Ratio__Ratio := by
      refine ⟨fun n hn => ?_, fun p hp => ?_⟩
      · simp only [primNames, List.mem_cons, List.not_mem_nil, or_false] at hn
        rcases hn with rfl | rfl | rfl | rfl | rfl | rfl
        · exact (of_decide_eq_true (show decide (PySem.W.kitAny K (.type "NoneType") [.ref (He.ga K "Ratio")] = some false) = true from (c.fact 100 (f := q100) rfl)))
        · exact (of_decide_eq_true (show decide (PySem.W.kitAny K (.type "bool") [.ref (He.ga K "Ratio")] = some false) = true from (c.fact 101 (f := q101) rfl)))
        · exact (of_decide_eq_true (show decide (PySem.W.kitAny K (.type "int") [.ref (He.ga K "Ratio")] = some false) = true from (c.fact 102 (f := q102) rfl)))
        · exact (of_decide_eq_true (show decide (PySem.W.kitAny K (.type "str") [.ref (He.ga K "Ratio")] = some false) = true from (c.fact 103 (f := q103) rfl)))
        · exact (of_decide_eq_true (show decide (PySem.W.kitAny K (.type "tuple") [.ref (He.ga K "Ratio")] = some false) = true from (c.fact 104 (f := q104) rfl)))
        · exact (of_decide_eq_true (show decide (PySem.W.kitAny K (.type "list") [.ref (He.ga K "Ratio")] = some false) = true from (c.fact 105 (f := q105) rfl)))
      · simp only [ans_Ratio__Ratio, List.mem_cons, List.not_mem_nil, or_false] at hp
        subst hp
        · exact ⟨(of_decide_eq_true (show decide (PySem.W.kitAny K (.ref (He.ga K "Ratio")) [.ref (He.ga K "Ratio")] = some true) = true from (c.fact 106 (f := q106) rfl))), ⟨(He.cls_ok (c.fact 64 (f := q64) rfl)), (show PySem.W.findIn K (.ref (He.ga K "Ratio")) "__class__" = some (some (.builtin "object.__class__")) from He.eqO_ok (c.fact 86 (f := q86) rfl)), (show PySem.W.specialIn K (.builtin "object.__class__") "__get__" = some (some (.builtin "getset_descriptor.__get__")) from He.eqO_ok (c.fact 84 (f := q84) rfl)), (of_decide_eq_true (show decide (PySem.W.takesIn K (.builtin "object.__class__") = some true) = true from (c.fact 85 (f := q85) rfl))), (of_decide_eq_true (show decide (PySem.W.mroIn K (He.ga K "Ratio") (.type "object") = some true) = true from (c.fact 87 (f := q87) rfl)))⟩⟩
    ans_bool := by
      refine ⟨fun n hn => ?_, fun p hp => ?_⟩
      · simp only [primNames, List.mem_cons, List.not_mem_nil, or_false] at hn
        rcases hn with rfl | rfl | rfl | rfl | rfl | rfl
        · exact (of_decide_eq_true (show decide (PySem.W.kitAny K (.type "NoneType") [.type "bool"] = some false) = true from (c.fact 107 (f := q107) rfl)))
        · exact (of_decide_eq_true (show decide (PySem.W.kitAny K (.type "bool") [.type "bool"] = some true) = true from (c.fact 108 (f := q108) rfl)))
        · exact (of_decide_eq_true (show decide (PySem.W.kitAny K (.type "int") [.type "bool"] = some false) = true from (c.fact 109 (f := q109) rfl)))
        · exact (of_decide_eq_true (show decide (PySem.W.kitAny K (.type "str") [.type "bool"] = some false) = true from (c.fact 110 (f := q110) rfl)))
        · exact (of_decide_eq_true (show decide (PySem.W.kitAny K (.type "tuple") [.type "bool"] = some false) = true from (c.fact 111 (f := q111) rfl)))
        · exact (of_decide_eq_true (show decide (PySem.W.kitAny K (.type "list") [.type "bool"] = some false) = true from (c.fact 112 (f := q112) rfl)))
      · simp only [ans_bool, List.mem_cons, List.not_mem_nil, or_false] at hp
    ans_bool__Ratio := by
      refine ⟨fun n hn => ?_, fun p hp => ?_⟩
      · simp only [primNames, List.mem_cons, List.not_mem_nil, or_false] at hn
        rcases hn with rfl | rfl | rfl | rfl | rfl | rfl
        · exact (of_decide_eq_true (show decide (PySem.W.kitAny K (.type "NoneType") [.type "bool"] = some false) = true from (c.fact 113 (f := q113) rfl)))
        · exact (of_decide_eq_true (show decide (PySem.W.kitAny K (.type "bool") [.type "bool"] = some true) = true from (c.fact 114 (f := q114) rfl)))
        · exact (of_decide_eq_true (show decide (PySem.W.kitAny K (.type "int") [.type "bool"] = some false) = true from (c.fact 115 (f := q115) rfl)))
        · exact (of_decide_eq_true (show decide (PySem.W.kitAny K (.type "str") [.type "bool"] = some false) = true from (c.fact 116 (f := q116) rfl)))
        · exact (of_decide_eq_true (show decide (PySem.W.kitAny K (.type "tuple") [.type "bool"] = some false) = true from (c.fact 117 (f := q117) rfl)))
        · exact (of_decide_eq_true (show decide (PySem.W.kitAny K (.type "list") [.type "bool"] = some false) = true from (c.fact 118 (f := q118) rfl)))
      · simp only [ans_bool__Ratio, List.mem_cons, List.not_mem_nil, or_false] at hp
        subst hp
        · exact ⟨(of_decide_eq_true (show decide (PySem.W.kitAny K (.ref (He.ga K "Ratio")) [.type "bool"] = some false) = true from (c.fact 119 (f := q119) rfl))), ⟨(He.cls_ok (c.fact 64 (f := q64) rfl)), (show PySem.W.findIn K (.ref (He.ga K "Ratio")) "__class__" = some (some (.builtin "object.__class__")) from He.eqO_ok (c.fact 86 (f := q86) rfl)), (show PySem.W.specialIn K (.builtin "object.__class__") "__get__" = some (some (.builtin "getset_descriptor.__get__")) from He.eqO_ok (c.fact 84 (f := q84) rfl)), (of_decide_eq_true (show decide (PySem.W.takesIn K (.builtin "object.__class__") = some true) = true from (c.fact 85 (f := q85) rfl))), (of_decide_eq_true (show decide (PySem.W.mroIn K (He.ga K "Ratio") (.type "object") = some true) = true from (c.fact 87 (f := q87) rfl)))⟩⟩
    ans_int := by
      refine ⟨fun n hn => ?_, fun p hp => ?_⟩
      · simp only [primNames, List.mem_cons, List.not_mem_nil, or_false] at hn
        rcases hn with rfl | rfl | rfl | rfl | rfl | rfl
        · exact (of_decide_eq_true (show decide (PySem.W.kitAny K (.type "NoneType") [.type "int"] = some false) = true from (c.fact 120 (f := q120) rfl)))
        · exact (of_decide_eq_true (show decide (PySem.W.kitAny K (.type "bool") [.type "int"] = some true) = true from (c.fact 121 (f := q121) rfl)))
        · exact (of_decide_eq_true (show decide (PySem.W.kitAny K (.type "int") [.type "int"] = some true) = true from (c.fact 122 (f := q122) rfl)))
        · exact (of_decide_eq_true (show decide (PySem.W.kitAny K (.type "str") [.type "int"] = some false) = true from (c.fact 123 (f := q123) rfl)))
        · exact (of_decide_eq_true (show decide (PySem.W.kitAny K (.type "tuple") [.type "int"] = some false) = true from (c.fact 124 (f := q124) rfl)))
        · exact (of_decide_eq_true (show decide (PySem.W.kitAny K (.type "list") [.type "int"] = some false) = true from (c.fact 125 (f := q125) rfl)))
      · simp only [ans_int, List.mem_cons, List.not_mem_nil, or_false] at hp
    ans_int__Ratio := by
      refine ⟨fun n hn => ?_, fun p hp => ?_⟩
      · simp only [primNames, List.mem_cons, List.not_mem_nil, or_false] at hn
        rcases hn with rfl | rfl | rfl | rfl | rfl | rfl
        · exact (of_decide_eq_true (show decide (PySem.W.kitAny K (.type "NoneType") [.type "int"] = some false) = true from (c.fact 126 (f := q126) rfl)))
        · exact (of_decide_eq_true (show decide (PySem.W.kitAny K (.type "bool") [.type "int"] = some true) = true from (c.fact 127 (f := q127) rfl)))
        · exact (of_decide_eq_true (show decide (PySem.W.kitAny K (.type "int") [.type "int"] = some true) = true from (c.fact 128 (f := q128) rfl)))
        · exact (of_decide_eq_true (show decide (PySem.W.kitAny K (.type "str") [.type "int"] = some false) = true from (c.fact 129 (f := q129) rfl)))
        · exact (of_decide_eq_true (show decide (PySem.W.kitAny K (.type "tuple") [.type "int"] = some false) = true from (c.fact 130 (f := q130) rfl)))
        · exact (of_decide_eq_true (show decide (PySem.W.kitAny K (.type "list") [.type "int"] = some false) = true from (c.fact 131 (f := q131) rfl)))
      · simp only [ans_int__Ratio, List.mem_cons, List.not_mem_nil, or_false] at hp
        subst hp
        · exact ⟨(of_decide_eq_true (show decide (PySem.W.kitAny K (.ref (He.ga K "Ratio")) [.type "int"] = some false) = true from (c.fact 132 (f := q132) rfl))), ⟨(He.cls_ok (c.fact 64 (f := q64) rfl)), (show PySem.W.findIn K (.ref (He.ga K "Ratio")) "__class__" = some (some (.builtin "object.__class__")) from He.eqO_ok (c.fact 86 (f := q86) rfl)), (show PySem.W.specialIn K (.builtin "object.__class__") "__get__" = some (some (.builtin "getset_descriptor.__get__")) from He.eqO_ok (c.fact 84 (f := q84) rfl)), (of_decide_eq_true (show decide (PySem.W.takesIn K (.builtin "object.__class__") = some true) = true from (c.fact 85 (f := q85) rfl))), (of_decide_eq_true (show decide (PySem.W.mroIn K (He.ga K "Ratio") (.type "object") = some true) = true from (c.fact 87 (f := q87) rfl)))⟩⟩
    ans_list := by
      refine ⟨fun n hn => ?_, fun p hp => ?_⟩
      · simp only [primNames, List.mem_cons, List.not_mem_nil, or_false] at hn
        rcases hn with rfl | rfl | rfl | rfl | rfl | rfl
        · exact (of_decide_eq_true (show decide (PySem.W.kitAny K (.type "NoneType") [.type "list"] = some false) = true from (c.fact 133 (f := q133) rfl)))
        · exact (of_decide_eq_true (show decide (PySem.W.kitAny K (.type "bool") [.type "list"] = some false) = true from (c.fact 134 (f := q134) rfl)))
        · exact (of_decide_eq_true (show decide (PySem.W.kitAny K (.type "int") [.type "list"] = some false) = true from (c.fact 135 (f := q135) rfl)))
        · exact (of_decide_eq_true (show decide (PySem.W.kitAny K (.type "str") [.type "list"] = some false) = true from (c.fact 136 (f := q136) rfl)))
        · exact (of_decide_eq_true (show decide (PySem.W.kitAny K (.type "tuple") [.type "list"] = some false) = true from (c.fact 137 (f := q137) rfl)))
        · exact (of_decide_eq_true (show decide (PySem.W.kitAny K (.type "list") [.type "list"] = some true) = true from (c.fact 138 (f := q138) rfl)))
      · simp only [ans_list, List.mem_cons, List.not_mem_nil, or_false] at hp
    ans_list__Ratio := by
      refine ⟨fun n hn => ?_, fun p hp => ?_⟩
      · simp only [primNames, List.mem_cons, List.not_mem_nil, or_false] at hn
        rcases hn with rfl | rfl | rfl | rfl | rfl | rfl
        · exact (of_decide_eq_true (show decide (PySem.W.kitAny K (.type "NoneType") [.type "list"] = some false) = true from (c.fact 139 (f := q139) rfl)))
        · exact (of_decide_eq_true (show decide (PySem.W.kitAny K (.type "bool") [.type "list"] = some false) = true from (c.fact 140 (f := q140) rfl)))
        · exact (of_decide_eq_true (show decide (PySem.W.kitAny K (.type "int") [.type "list"] = some false) = true from (c.fact 141 (f := q141) rfl)))
        · exact (of_decide_eq_true (show decide (PySem.W.kitAny K (.type "str") [.type "list"] = some false) = true from (c.fact 142 (f := q142) rfl)))
        · exact (of_decide_eq_true (show decide (PySem.W.kitAny K (.type "tuple") [.type "list"] = some false) = true from (c.fact 143 (f := q143) rfl)))
        · exact (of_decide_eq_true (show decide (PySem.W.kitAny K (.type "list") [.type "list"] = some true) = true from (c.fact 144 (f := q144) rfl)))
      · simp only [ans_list__Ratio, List.mem_cons, List.not_mem_nil, or_false] at hp
        subst hp
        · exact ⟨(of_decide_eq_true (show decide (PySem.W.kitAny K (.ref (He.ga K "Ratio")) [.type "list"] = some false) = true from (c.fact 145 (f := q145) rfl))), ⟨(He.cls_ok (c.fact 64 (f := q64) rfl)), (show PySem.W.findIn K (.ref (He.ga K "Ratio")) "__class__" = some (some (.builtin "object.__class__")) from He.eqO_ok (c.fact 86 (f := q86) rfl)), (show PySem.W.specialIn K (.builtin "object.__class__") "__get__" = some (some (.builtin "getset_descriptor.__get__")) from He.eqO_ok (c.fact 84 (f := q84) rfl)), (of_decide_eq_true (show decide (PySem.W.takesIn K (.builtin "object.__class__") = some true) = true from (c.fact 85 (f := q85) rfl))), (of_decide_eq_true (show decide (PySem.W.mroIn K (He.ga K "Ratio") (.type "object") = some true) = true from (c.fact 87 (f := q87) rfl)))⟩⟩
    ans_list_tuple := by
      refine ⟨fun n hn => ?_, fun p hp => ?_⟩
      · simp only [primNames, List.mem_cons, List.not_mem_nil, or_false] at hn
        rcases hn with rfl | rfl | rfl | rfl | rfl | rfl
        · exact (of_decide_eq_true (show decide (PySem.W.kitAny K (.type "NoneType") [.type "list", .type "tuple"] = some false) = true from (c.fact 146 (f := q146) rfl)))
        · exact (of_decide_eq_true (show decide (PySem.W.kitAny K (.type "bool") [.type "list", .type "tuple"] = some false) = true from (c.fact 147 (f := q147) rfl)))
        · exact (of_decide_eq_true (show decide (PySem.W.kitAny K (.type "int") [.type "list", .type "tuple"] = some false) = true from (c.fact 148 (f := q148) rfl)))
        · exact (of_decide_eq_true (show decide (PySem.W.kitAny K (.type "str") [.type "list", .type "tuple"] = some false) = true from (c.fact 149 (f := q149) rfl)))
        · exact (of_decide_eq_true (show decide (PySem.W.kitAny K (.type "tuple") [.type "list", .type "tuple"] = some true) = true from (c.fact 150 (f := q150) rfl)))
        · exact (of_decide_eq_true (show decide (PySem.W.kitAny K (.type "list") [.type "list", .type "tuple"] = some true) = true from (c.fact 151 (f := q151) rfl)))
      · simp only [ans_list_tuple, List.mem_cons, List.not_mem_nil, or_false] at hp
    ans_str := by
      refine ⟨fun n hn => ?_, fun p hp => ?_⟩
      · simp only [primNames, List.mem_cons, List.not_mem_nil, or_false] at hn
        rcases hn with rfl | rfl | rfl | rfl | rfl | rfl
        · exact (of_decide_eq_true (show decide (PySem.W.kitAny K (.type "NoneType") [.type "str"] = some false) = true from (c.fact 152 (f := q152) rfl)))
        · exact (of_decide_eq_true (show decide (PySem.W.kitAny K (.type "bool") [.type "str"] = some false) = true from (c.fact 153 (f := q153) rfl)))
        · exact (of_decide_eq_true (show decide (PySem.W.kitAny K (.type "int") [.type "str"] = some false) = true from (c.fact 154 (f := q154) rfl)))
        · exact (of_decide_eq_true (show decide (PySem.W.kitAny K (.type "str") [.type "str"] = some true) = true from (c.fact 155 (f := q155) rfl)))
        · exact (of_decide_eq_true (show decide (PySem.W.kitAny K (.type "tuple") [.type "str"] = some false) = true from (c.fact 156 (f := q156) rfl)))
        · exact (of_decide_eq_true (show decide (PySem.W.kitAny K (.type "list") [.type "str"] = some false) = true from (c.fact 157 (f := q157) rfl)))
      · simp only [ans_str, List.mem_cons, List.not_mem_nil, or_false] at hp
    ans_str__Ratio := by
      refine ⟨fun n hn => ?_, fun p hp => ?_⟩
      · simp only [primNames, List.mem_cons, List.not_mem_nil, or_false] at hn
        rcases hn with rfl | rfl | rfl | rfl | rfl | rfl
        · exact (of_decide_eq_true (show decide (PySem.W.kitAny K (.type "NoneType") [.type "str"] = some false) = true from (c.fact 158 (f := q158) rfl)))
        · exact (of_decide_eq_true (show decide (PySem.W.kitAny K (.type "bool") [.type "str"] = some false) = true from (c.fact 159 (f := q159) rfl)))
        · exact (of_decide_eq_true (show decide (PySem.W.kitAny K (.type "int") [.type "str"] = some false) = true from (c.fact 160 (f := q160) rfl)))
        · exact (of_decide_eq_true (show decide (PySem.W.kitAny K (.type "str") [.type "str"] = some true) = true from (c.fact 161 (f := q161) rfl)))
        · exact (of_decide_eq_true (show decide (PySem.W.kitAny K (.type "tuple") [.type "str"] = some false) = true from (c.fact 162 (f := q162) rfl)))
        · exact (of_decide_eq_true (show decide (PySem.W.kitAny K (.type "list") [.type "str"] = some false) = true from (c.fact 163 (f := q163) rfl)))
      · simp only [ans_str__Ratio, List.mem_cons, List.not_mem_nil, or_false] at hp
        subst hp
        · exact ⟨(of_decide_eq_true (show decide (PySem.W.kitAny K (.ref (He.ga K "Ratio")) [.type "str"] = some false) = true from (c.fact 164 (f := q164) rfl))), ⟨(He.cls_ok (c.fact 64 (f := q64) rfl)), (show PySem.W.findIn K (.ref (He.ga K "Ratio")) "__class__" = some (some (.builtin "object.__class__")) from He.eqO_ok (c.fact 86 (f := q86) rfl)), (show PySem.W.specialIn K (.builtin "object.__class__") "__get__" = some (some (.builtin "getset_descriptor.__get__")) from He.eqO_ok (c.fact 84 (f := q84) rfl)), (of_decide_eq_true (show decide (PySem.W.takesIn K (.builtin "object.__class__") = some true) = true from (c.fact 85 (f := q85) rfl))), (of_decide_eq_true (show decide (PySem.W.mroIn K (He.ga K "Ratio") (.type "object") = some true) = true from (c.fact 87 (f := q87) rfl)))⟩⟩
    ans_tuple := by
      refine ⟨fun n hn => ?_, fun p hp => ?_⟩
      · simp only [primNames, List.mem_cons, List.not_mem_nil, or_false] at hn
        rcases hn with rfl | rfl | rfl | rfl | rfl | rfl
        · exact (of_decide_eq_true (show decide (PySem.W.kitAny K (.type "NoneType") [.type "tuple"] = some false) = true from (c.fact 165 (f := q165) rfl)))
        · exact (of_decide_eq_true (show decide (PySem.W.kitAny K (.type "bool") [.type "tuple"] = some false) = true from (c.fact 166 (f := q166) rfl)))
        · exact (of_decide_eq_true (show decide (PySem.W.kitAny K (.type "int") [.type "tuple"] = some false) = true from (c.fact 167 (f := q167) rfl)))
        · exact (of_decide_eq_true (show decide (PySem.W.kitAny K (.type "str") [.type "tuple"] = some false) = true from (c.fact 168 (f := q168) rfl)))
        · exact (of_decide_eq_true (show decide (PySem.W.kitAny K (.type "tuple") [.type "tuple"] = some true) = true from (c.fact 169 (f := q169) rfl)))
        · exact (of_decide_eq_true (show decide (PySem.W.kitAny K (.type "list") [.type "tuple"] = some false) = true from (c.fact 170 (f := q170) rfl)))
      · simp only [ans_tuple, List.mem_cons, List.not_mem_nil, or_false] at hp
    ans_tuple__Ratio := by
      refine ⟨fun n hn => ?_, fun p hp => ?_⟩
      · simp only [primNames, List.mem_cons, List.not_mem_nil, or_false] at hn
        rcases hn with rfl | rfl | rfl | rfl | rfl | rfl
        · exact (of_decide_eq_true (show decide (PySem.W.kitAny K (.type "NoneType") [.type "tuple"] = some false) = true from (c.fact 171 (f := q171) rfl)))
        · exact (of_decide_eq_true (show decide (PySem.W.kitAny K (.type "bool") [.type "tuple"] = some false) = true from (c.fact 172 (f := q172) rfl)))
        · exact (of_decide_eq_true (show decide (PySem.W.kitAny K (.type "int") [.type "tuple"] = some false) = true from (c.fact 173 (f := q173) rfl)))
        · exact (of_decide_eq_true (show decide (PySem.W.kitAny K (.type "str") [.type "tuple"] = some false) = true from (c.fact 174 (f := q174) rfl)))
        · exact (of_decide_eq_true (show decide (PySem.W.kitAny K (.type "tuple") [.type "tuple"] = some true) = true from (c.fact 175 (f := q175) rfl)))
        · exact (of_decide_eq_true (show decide (PySem.W.kitAny K (.type "list") [.type "tuple"] = some false) = true from (c.fact 176 (f := q176) rfl)))
      · simp only [ans_tuple__Ratio, List.mem_cons, List.not_mem_nil, or_false] at hp
        subst hp
        · exact ⟨(of_decide_eq_true (show decide (PySem.W.kitAny K (.ref (He.ga K "Ratio")) [.type "tuple"] = some false) = true from (c.fact 177 (f := q177) rfl))), ⟨(He.cls_ok (c.fact 64 (f := q64) rfl)), (show PySem.W.findIn K (.ref (He.ga K "Ratio")) "__class__" = some (some (.builtin "object.__class__")) from He.eqO_ok (c.fact 86 (f := q86) rfl)), (show PySem.W.specialIn K (.builtin "object.__class__") "__get__" = some (some (.builtin "getset_descriptor.__get__")) from He.eqO_ok (c.fact 84 (f := q84) rfl)), (of_decide_eq_true (show decide (PySem.W.takesIn K (.builtin "object.__class__") = some true) = true from (c.fact 85 (f := q85) rfl))), (of_decide_eq_true (show decide (PySem.W.mroIn K (He.ga K "Ratio") (.type "object") = some true) = true from (c.fact 87 (f := q87) rfl)))⟩⟩
  }
  exact ok_law T ⟨(codeB_ok (c.ms "law" (List.mem_of_getElem? (i := 0) rfl)).1).1, hT "law" (List.mem_of_getElem? (i := 0) rfl), List.mem_of_getElem? (i := 0) rfl, fun p hp _ => by rw [List.mem_singleton.mp hp]⟩ F21
theorem law_end {q : Program} {loose : List Str} {XP : (Str → Option Value) → Heap → Prop} {d : DefRec} {nk : Nat} (hdf : d.params.defaults = []) (hnm : d.name = ("law" : Str)) :
    PySem.W.WalkO q loose XP (Q0.hook nk).says PySem.Challenge.rw_bothgreen_k06_whole_texts_of_ratios.row.toRowW d [] (fun f vs => PySem.call f vs) := by
  refine walk_ofX (l := PySem.Challenge.rw_bothgreen_k06_whole_texts_of_ratios) (n := 63) (k := 17) (x := "_law_script") (Q := Q0) rfl (by decide) hdf ⟨rfl, by decide, by decide⟩ fun w mg fa h K c G hmg => ?_
  rw [hnm] at hmg
  obtain ⟨fd, cc, hc, hb, hF⟩ := facts (w := w) c G hmg
  exact ⟨fd, spLaw K, hb, fun H a ns hl hT hS => ⟨a, ns, rfl, hS, hl, (fun p hp => by
    have hp : p ∈ [(tabA K (He.ga K "law"), (("law" : Str) ++ (".<locals>." : Str) ++ ("<lambda>" : Str)))] := hp
    simp only [List.mem_cons, List.not_mem_nil, or_false] at hp
    subst hp; exact hT "law" (List.mem_of_getElem? (i := 0) rfl)), fun _ => rfl⟩, fun base b1 b2 b3 => law_sp (hF base b1 b2 b3) (law_true cc hc)⟩
end W
open PySem PySem.W PyProof.Rows
set_option maxRecDepth 100000 in
set_option maxHeartbeats 0 in
theorem PySem.Challenge.cw_bothgreen_k06_whole_texts_of_ratios_holds : PySem.Challenge.rw_bothgreen_k06_whole_texts_of_ratios.Holds := by
  w_on; o_law
  refine HandSHeadRun.head_any (r := W.R0) (q := W.qv) (H := DL.Hd.hook W.Q0 5) (ob := W.ob) (M := 40000) (loose := W.loose) (d := HandSHeadRun.topDef W.R0.prog 27) (kwd := []) W.ob_eq (by kernel_rfl) (fun s => by kernel_rfl) W.run (by kernel_rfl) (by kernel_rfl) (by kernel_rfl) (by rfl) (by first | assumption | decide +kernel) (by decide +kernel) ⟨rfl, rfl, rfl, rfl, rfl, by decide +kernel⟩ ?hw ?hc
  case hw => w_witness2
  case hc => exact W.law_end (by kernel_rfl) (by kernel_rfl)

