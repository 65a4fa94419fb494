import PyProof.Rows.All
import HandS.ForMost
import HandS.ForExc
import HandS.Head0
import HandS.Head1
import HandS.Head2
import HandS.HeadHook1
import HandS.HeadHook2
import PySem.Challenge.RW_bothgreen_k48_fits_of_surveys
import Wide.All
import OpenK.AllK
import Wide.FinOn
import HandS.IsInst
import HandS.Zip
import HandS.Wide
import HandS.FStr
import HandS.Property
import HandS.Defaults
import HandS.OwnEq
import HandS.ExcInit
import HandS.Lambda
import KE.KOpsOwn
import KE.KCallOwn
import KE.KFmtOwn
import HandS.Style
import PyProof.FactsAll.object_2
import HandS.More
import HandS.NoneIn
import HandS.Text
import HandS.Iter
import HandS.TupAny
import HandS.Deep
import HandS.Conv
import HandS.Comp
import HandS.Star
import HandS.SortInts
import HandS.ClsMeth
import KE.DataMinMax
import HandS.SortKw
import KE.GoesNew
import KE.KDictZip
import KE.GoesMore
import KE.GoesEnum
import KE.GoesRaise
import PyProof.LongRange
import PyProof.GenRules
import PyProof.GenQ
import HandS.GenOver
import HandS.GenList
import HandS.Strs
import HandS.SetBool
import HandS.SetFor
import KE.KxField
import PyProof.StrOps2
import KE.RegKUnpackStar
import HandS.DictComp
set_option Elab.async false
set_option linter.all false
set_option maxRecDepth 100000
set_option maxHeartbeats 4000000
namespace DL
open PySem PySem.Spec PyProof.Rows L2
def recFn (K : PySem.W.Frag) (T : String) (p : Addr) : Addr := match PySem.W.recIn K p T with
  | some (.ref f :: _) => f
  | _ => 0
def staP (K : PySem.W.Frag) (C : Str) (m : Str) : Addr := match PySem.W.findCls K (.ref (He.ga K C)) (.type "type") m with
  | some (.get _ (.ref p) _ _) => p
  | _ => 0
inductive Ad where
  | glo (x : Str)
  | meth (C m : Str)
  | prop (C m : Str)
  | stat (C m : Str)
  | clm (C m : Str)
def Ad.at_ (K : PySem.W.Frag) : Ad → Addr
  | .glo x => He.ga K x
  | .meth C m => He.ma K (He.ga K C) m
  | .prop C m => recFn K "property" (He.ma K (He.ga K C) m)
  | .stat C m => recFn K "staticmethod" (staP K C m)
  | .clm C m => recFn K "classmethod" (staP K C m)
def recB (K : PySem.W.Frag) (T : String) (p : Addr) : Bool := match PySem.W.recIn K p T with
  | some (.ref _ :: _) => true
  | _ => false
theorem recB_ok {K : PySem.W.Frag} {T : String} {p : Addr} (h : recB K T p = true) : ∃ rest, PySem.W.recIn K p T = some (.ref (recFn K T p) :: rest) := by
  unfold recB at h
  unfold recFn
  split at h
  · rename_i a rest e
    exact ⟨rest, by rw [e]⟩
  · cases h
abbrev FnK : Type := Option (Str × Str × Arguments × FuncBody × Scope × Addr × List (Str × Addr) × Addr)
def fnK (K : PySem.W.Frag) (a : Addr) : FnK := match K.lookup a with
  | some ⟨_, _, .func g, _⟩ => some (g.name, g.qualname, g.params, g.body, g.scope, g.globals, g.closure, g.builtins)
  | _ => none
structure DefK where
  ad : Ad
  name : Str
  qual : Str
  params : Arguments
  body : List Stmt
  scope : Scope
  dfl : List V := []
  kws : List (Str × V) := []
  emp : Bool := false
def empA (K : PySem.W.Frag) (a : Addr) : Addr := match K.lookup a with
  | some ⟨_, _, .func g, _⟩ => (match g.defaults with
    | .ref T => (match K.lookup T with
      | some ⟨_, _, .seq its _, _⟩ => (match its.toList with
        | .ref e :: _ => e
        | _ => 0)
      | _ => 0)
    | _ => 0)
  | _ => 0
def KTx (K : PySem.W.Frag) (a : Addr) (xs : List V) : Prop := ∃ (o : Obj) (its : Array Value) (n : Nat), K.lookup a = some o ∧ o.cls = .type "tuple" ∧ o.dict = none ∧ o.data = .seq its n ∧ its.size ≤ sizeLine ∧ Vals xs its.toList
def tupB (K : PySem.W.Frag) (a : Addr) (xs : List V) : Bool := match K.lookup a with
  | some ⟨.type t, none, .seq its _, _⟩ => decide (t = "tuple") && (decide (its.size ≤ sizeLine) && He.relAll xs its.toList)
  | _ => false
theorem tupB_ok {K : PySem.W.Frag} {a : Addr} {xs : List V} (h : tupB K a xs = true) : KTx K a xs := by
  unfold tupB at h
  split at h
  · rename_i t its n sl e
    obtain ⟨h1, h2⟩ := He.ba h
    obtain ⟨h2, h3⟩ := He.ba h2
    obtain rfl := of_decide_eq_true h1
    exact ⟨_, its, n, e, rfl, rfl, rfl, of_decide_eq_true h2, He.relAll_ok h3⟩
  · cases h
def DefK.dflK (d : DefK) (K : PySem.W.Frag) : List V := match d.emp with
  | false => d.dfl
  | true => [.ref (empA K (d.ad.at_ K))]
def DefK.seen (d : DefK) : FnK := some (d.name, d.qual, d.params, .stmts d.body, d.scope, mainGlobals, [], builtinsNs)
def DefK.okB (K : PySem.W.Frag) (d : DefK) : Bool := PySem.W.keepIn K (.ref (d.ad.at_ K)) && (match K.lookup (d.ad.at_ K) with
  | some ⟨_, _, .func g, _⟩ => PySem.W.codeIn K g.code d.qual && (He.dflB K g.defaults (d.dflK K) && He.kwdB K g.kwdefaults d.kws)
  | _ => false)
abbrev AlK : Type := Bool × List FnK
def obsK (fs : List (PySem.W.Frag → Bool)) (ds : List DefK) (K : PySem.W.Frag) : AlK := ((fs.all fun f => f K) && ds.all fun d => d.okB K, ds.map fun d => fnK K (d.ad.at_ K))
def valK (ds : List DefK) : AlK := (true, ds.map DefK.seen)
def SaysK (fs : List (PySem.W.Frag → Bool)) (ds : List DefK) (K : PySem.W.Frag) : Prop := obsK fs ds K = valK ds
def refK (o : Obj) : List Addr := match o.data with
  | .dict es _ => es.toList.flatMap fun e => He.refV e.val
  | .cls cd => [cd.ns]
  | .func fd => He.refV fd.code ++ He.refV fd.defaults
  | .seq its _ => its.toList.flatMap He.refV
  | .fields vs => (match o.cls with
    | .type c => (match decide (c = "property") || (decide (c = "staticmethod") || decide (c = "classmethod")) with
      | true => vs.toList.flatMap He.refV
      | false => [])
    | _ => [])
  | _ => []
def nextK (g : Addr → Option Obj) (l : List Addr) : List Addr := l.flatMap fun a => match g a with
  | some o => refK o
  | none => []
def asK (g : Addr → Option Obj) : Nat → List Addr → List Addr
  | 0, l => l
  | n + 1, l => l ++ asK g n (nextK g l)
def obsKG (n : Nat) (fs : List (PySem.W.Frag → Bool)) (ds : List DefK) (g : Addr → Option Obj) : AlK := obsK fs ds (He.frG g (asK g n [mainGlobals]))
def hookK (n : Nat) (fs : List (PySem.W.Frag → Bool)) (ds : List DefK) : PySem.W.Hook where
  α := AlK
  obs := fun s => obsKG n fs ds s.heap.get?
  val := fun _ => valK ds
  says := fun _ h => ∃ K : PySem.W.Frag, K.In h ∧ SaysK fs ds K
  of := fun _ _ e => ⟨_, He.frG_in, e⟩
  keeps := fun _ _ _ ⟨K, hK, c⟩ k => ⟨K, PySem.W.Frag.In.keeps hK k, c⟩
theorem obsKG_eq {n : Nat} {fs : List (PySem.W.Frag → Bool)} {ds : List DefK} {g : Addr → Option Obj} {s : Shared} (h : ∀ a, g a = s.heap.get? a) : obsKG n fs ds g = (hookK n fs ds).obs s := by
  obtain rfl : g = s.heap.get? := funext h
  rfl
def funCodeA (K : PySem.W.Frag) (f : Addr) : Value := match K.lookup f with
  | some ⟨_, _, .func fd, _⟩ => fd.code
  | _ => .none
def codeA (K : PySem.W.Frag) (f : Addr) : Addr := match funCodeA K f with
  | .ref c => c
  | _ => 0
def tabA (K : PySem.W.Frag) (f : Addr) : Addr := match K.lookup (codeA K f) with
  | some ⟨_, _, .fields vs, _⟩ => (match vs.getD 11 .none with
    | .ref P => P
    | _ => 0)
  | _ => 0
def codeB (K : PySem.W.Frag) (f : Addr) : Bool := match funCodeA K f with
  | .ref c => (match K.lookup c with
    | some ⟨.type t, _, .fields vs, _⟩ => decide (t = "code") && (match vs.getD 11 .none, vs.getD 18 .none, vs.getD 7 .none, vs.getD 9 .none, vs.getD 10 .none with
      | .ref P, .str _ _, .int _ _, .bool _, .int _ _ => decide (11 < vs.size) && (decide (c ≠ P) && (K.lookup P).isNone)
      | _, _, _, _, _ => false)
    | _ => false)
  | _ => false
def emptyT : Option Obj → Bool
  | some ⟨.none, none, .fields a, sl⟩ => a.isEmpty && sl.isEmpty
  | _ => false
abbrev FnKS : Type := Option (Str × Str × Arguments × FuncBody × Scope × Addr × List Str × Addr)
def fnKS (K : PySem.W.Frag) (a : Addr) : FnKS := match K.lookup a with
  | some ⟨_, _, .func g, _⟩ => some (g.name, g.qualname, g.params, g.body, g.scope, g.globals, g.closure.map (·.1), g.builtins)
  | _ => none
def celA (K : PySem.W.Frag) (a : Addr) : Addr := match K.lookup a with
  | some ⟨_, _, .func g, _⟩ => (match g.closure with
    | (_, c) :: _ => c
    | [] => 0)
  | _ => 0
structure DefS where
  ad : Ad
  name : Str
  qual : Str
  params : Arguments
  body : List Stmt
  scope : Scope
  cl : Str
  file : Str
def DefS.seen (d : DefS) : FnKS := some (d.name, d.qual, d.params, .stmts d.body, d.scope, mainGlobals, ["__class__"], builtinsNs)
def fileB (K : PySem.W.Frag) (file : Str) (v : Value) : Bool := match v with
  | .ref c => (match K.lookup c with
    | some ⟨_, _, .fields vs, _⟩ => (match vs.getD 2 .none with
      | .str f _ => decide (2 < vs.size) && (file == f)
      | _ => false)
    | _ => false)
  | _ => false
def DefS.okB (K : PySem.W.Frag) (d : DefS) : Bool := PySem.W.keepIn K (.ref (d.ad.at_ K)) && ((match K.lookup (celA K (d.ad.at_ K)) with
    | some ⟨_, _, .cell (some (.ref D)), _⟩ => decide (D = He.ga K d.cl) && (PySem.W.clsIn K D).isSome
    | _ => false) && (match K.lookup (d.ad.at_ K) with
  | some ⟨_, _, .func g, _⟩ => PySem.W.codeIn K g.code d.qual && (He.dflB K g.defaults [] && fileB K d.file g.code)
  | _ => false))
def refK2 (o : Obj) : List Addr := match o.data with
  | .dict es _ => es.toList.flatMap fun e => He.refV e.val
  | .cls cd => [cd.ns]
  | .func fd => He.refV fd.code ++ (He.refV fd.defaults ++ (He.refV fd.kwdefaults ++ fd.closure.map (·.2)))
  | .cell (some v) => He.refV v
  | .seq its _ => its.toList.flatMap He.refV
  | .fields vs => (match o.cls with
    | .type c => (match decide (c = "property") || (decide (c = "staticmethod") || decide (c = "classmethod")) with
      | true => vs.toList.flatMap He.refV
      | false => [])
    | _ => [])
  | _ => []
def nextK2 (g : Addr → Option Obj) (l : List Addr) : List Addr := l.flatMap fun a => match g a with
  | some o => refK2 o
  | none => []
def isClsO : Option Obj → Bool
  | some ⟨_, _, .cls _, _⟩ => true
  | _ => false
def asX2 (g : Addr → Option Obj) (l1 : List Addr) (cl ns at_ fu c1 : List Addr) : List Addr := [mainGlobals, cStatics] ++ (cl ++ (ns ++ (at_ ++ (fu ++ (c1 ++ (nextK2 g fu ++ (nextK2 g c1 ++ nextK2 g (nextK2 g fu))))))))
def asX1 (g : Addr → Option Obj) (l1 cl fu : List Addr) : List Addr := asX2 g l1 cl (nextK2 g cl) (nextK2 g (nextK2 g cl)) fu (nextK2 g (nextK2 g (nextK2 g cl)))
def asX0 (g : Addr → Option Obj) (l1 : List Addr) : List Addr := asX1 g l1 (l1.filter fun a => isClsO (g a)) (l1.filter fun a => !isClsO (g a))
def asX (g : Addr → Option Obj) (_ : Nat) : List Addr := asX0 g (nextK2 g [mainGlobals, cStatics])
structure Hd where
  fs : List (PySem.W.Frag → Bool)
  ds : List DefK
  ss : List DefS
  ms : List Str
def codeQ (K : PySem.W.Frag) (a : Addr) : Option Str := match K.lookup a with
  | some ⟨_, _, .func g, _⟩ => (match g.code with
    | .ref c => (match K.lookup c with
      | some ⟨_, _, .fields vs, _⟩ => (match vs.toList with
        | _ :: .str n _ :: _ => some n
        | _ => none)
      | _ => none)
    | _ => none)
  | _ => none
def DefK.okB1 (K : PySem.W.Frag) (d : DefK) : Bool := PySem.W.keepIn K (.ref (d.ad.at_ K)) && (match K.lookup (d.ad.at_ K) with
  | some ⟨_, _, .func g, _⟩ => He.dflB K g.defaults (d.dflK K) && He.kwdB K g.kwdefaults d.kws
  | _ => false)
abbrev AlX : Type := Bool × List FnK × List FnKS × List (Option Str)
def Hd.obsK (q : Hd) (g : Addr → Option Obj) (K : PySem.W.Frag) : AlX :=
  ((q.fs.all fun f => f K) && ((q.ds.all fun d => d.okB1 K) && ((q.ss.all fun d => d.okB K) && (q.ms.all fun x => codeB K (He.ga K x) && emptyT (g (tabA K (He.ga K x)))))), q.ds.map fun d => fnK K (d.ad.at_ K), q.ss.map fun d => fnKS K (d.ad.at_ K), q.ds.map fun d => codeQ K (d.ad.at_ K))
def Hd.val (q : Hd) : AlX := (true, q.ds.map DefK.seen, q.ss.map DefS.seen, q.ds.map fun d => some d.qual)
def Hd.obsG (q : Hd) (n : Nat) (g : Addr → Option Obj) : AlX := q.obsK g (He.frG g (asX g n))
structure Hd.Says (q : Hd) (h : Heap) (K : PySem.W.Frag) : Prop where
  kin : K.In h
  fs : ∀ f ∈ q.fs, f K = true
  ds : ∀ d ∈ q.ds, d.okB K = true
  ss : ∀ d ∈ q.ss, d.okB K = true
  ms : ∀ x ∈ q.ms, codeB K (He.ga K x) = true ∧ h.get? (tabA K (He.ga K x)) = some { cls := .none, data := .fields #[] }
  dk : q.ds.map (fun d => fnK K (d.ad.at_ K)) = q.ds.map DefK.seen
  sk : q.ss.map (fun d => fnKS K (d.ad.at_ K)) = q.ss.map DefS.seen
open PySem.W PySem.Calls in
noncomputable def EndE (r : PySem.W.OpenRow) (M : Nat) (w : World) (os : OsState) : Option PySem.W.SharedT := HandSHeadRun.endF (HandSHeadRun.stepQ (HandSHeadRun.denQ HandSHeadRun.tabQ) r.prog w) M r.prog w os
open PySem.W PySem.Calls in
open PySem.W PySem.Calls in
def AskE (r : PySem.W.OpenRow) (Q : Hd) (M : Nat) (w : World) : Prop := ∀ os : OsState, (EndE r M w os).map (fun s => Q.obsG 5 (HandSHeadRun.getT s)) = some Q.val
theorem ba_of {a b : Bool} (h1 : a = true) (h2 : b = true) : (a && b) = true := by rw [h1, h2]; rfl
def Hd.app (a b : Hd) : Hd := ⟨a.fs ++ b.fs, a.ds ++ b.ds, a.ss ++ b.ss, a.ms ++ b.ms⟩
theorem Hd.val_iff {q : Hd} {g : Addr → Option Obj} {K : PySem.W.Frag} : q.obsK g K = q.val ↔ (((q.fs.all fun f => f K) && ((q.ds.all fun d => d.okB1 K) && ((q.ss.all fun d => d.okB K) && (q.ms.all fun x => codeB K (He.ga K x) && emptyT (g (tabA K (He.ga K x))))))) = true ∧ q.ds.map (fun d => fnK K (d.ad.at_ K)) = q.ds.map DefK.seen ∧ q.ss.map (fun d => fnKS K (d.ad.at_ K)) = q.ss.map DefS.seen ∧ (q.ds.map fun d => codeQ K (d.ad.at_ K)) = q.ds.map fun d => some d.qual) := by
  unfold Hd.obsK Hd.val
  rw [Prod.mk.injEq, Prod.mk.injEq, Prod.mk.injEq]
theorem Hd.join {a b : Hd} {g : Addr → Option Obj} {K : PySem.W.Frag} (h1 : a.obsK g K = a.val) (h2 : b.obsK g K = b.val) : (a.app b).obsK g K = (a.app b).val := by
  rw [Hd.val_iff] at h1 h2 ⊢
  obtain ⟨a1, a2, a3, a4⟩ := h1
  obtain ⟨b1, b2, b3, b4⟩ := h2
  obtain ⟨p1, a1⟩ := He.ba a1
  obtain ⟨p2, a1⟩ := He.ba a1
  obtain ⟨p3, p4⟩ := He.ba a1
  obtain ⟨r1, b1⟩ := He.ba b1
  obtain ⟨r2, b1⟩ := He.ba b1
  obtain ⟨r3, r4⟩ := He.ba b1
  unfold Hd.app
  dsimp only
  refine ⟨?_, ?_, ?_, ?_⟩
  · rw [List.all_append, List.all_append, List.all_append, List.all_append]
    exact ba_of (ba_of p1 r1) (ba_of (ba_of p2 r2) (ba_of (ba_of p3 r3) (ba_of p4 r4)))
  · rw [List.map_append, List.map_append, a2, b2]
  · rw [List.map_append, List.map_append, a3, b3]
  · rw [List.map_append, List.map_append, a4, b4]
theorem AskE.join {r : PySem.W.OpenRow} {a b : Hd} {M : Nat} {w : World} (h1 : AskE r a M w) (h2 : AskE r b M w) : AskE r (a.app b) M w := fun os => by
  have k1 := h1 os
  have k2 := h2 os
  cases e : EndE r M w os with
  | none => rw [e] at k1; cases k1
  | some s =>
    rw [e] at k1 k2
    have k1 := Option.some.inj k1
    have k2 := Option.some.inj k2
    exact congrArg some (Hd.join k1 k2)
end DL

set_option maxHeartbeats 0
namespace W
open PySem PySem.Spec PyProof.Rows L2 DL
def topS (i : Nat) : Stmt := PySem.Challenge.pw_bothgreen_k48_fits_of_surveys.main.body.getD i (.Pass ⟨0, 0, 0, 0⟩)
abbrev s_w_begin : Stmt := (topS 36)
abbrev s_w_take : Stmt := (topS 37)
abbrev s_w_one : Stmt := (topS 38)
abbrev s_w_steps : Stmt := (topS 42)
abbrev s_w_names : Stmt := (topS 41)
abbrev s_w_mixed : Stmt := (topS 39)
abbrev s_w_facts : Stmt := (topS 43)
abbrev s_w_shares : Stmt := (topS 46)
abbrev s_is_list : Stmt := (topS 16)
abbrev s_is_name : Stmt := (topS 14)
abbrev s_is_whole : Stmt := (topS 15)
abbrev s_common_divisor : Stmt := (topS 20)
abbrev s_RatioD_initD : Stmt := (inClass (topS 22) 0)
abbrev s_Ratio_bottom : Stmt := (inClass (topS 22) 3)
abbrev s_Ratio_top : Stmt := (inClass (topS 22) 2)
abbrev s_Ratio_is_below : Stmt := (inClass (topS 22) 11)
abbrev s_is_between : Stmt := (topS 24)
abbrev s_RatioD_boolD : Stmt := (inClass (topS 22) 13)
abbrev s_RatioD_eqD : Stmt := (inClass (topS 22) 12)
abbrev s_need_share : Stmt := (topS 26)
abbrev s_is_ratio : Stmt := (topS 23)
abbrev s_is_fact : Stmt := (topS 30)
abbrev s_RatioD_negD : Stmt := (inClass (topS 22) 7)
abbrev s_bounds_of : Stmt := (topS 31)
abbrev s_RatioD_addD : Stmt := (inClass (topS 22) 4)
abbrev s_closed_bounds : Stmt := (topS 32)
abbrev s_SurveyD_initD : Stmt := (inClass (topS 34) 0)
abbrev s_w_fact : Stmt := (topS 44)
abbrev s_w_survey : Stmt := (topS 45)
abbrev s_RatioD_subD : Stmt := (inClass (topS 22) 5)
abbrev s_w_is_fit : Stmt := (topS 47)
abbrev s_Survey_names : Stmt := (inClass (topS 34) 3)
abbrev s_has_bounds : Stmt := (topS 33)
abbrev s_Survey_is_fit : Stmt := (inClass (topS 34) 5)
abbrev s_w_like : Stmt := (topS 40)
abbrev s_law : Stmt := (topS 48)
end W

set_option maxHeartbeats 0
namespace W
open PySem PySem.Spec PyProof.Rows L2 DL
abbrev dk0 : DefK := ⟨.glo "_law_begin", "_law_begin", "_law_begin", defArgs s_w_begin, defBody s_w_begin, defScope s_w_begin, [], [], false⟩
abbrev dk1 : DefK := ⟨.glo "_law_take", "_law_take", "_law_take", defArgs s_w_take, defBody s_w_take, defScope s_w_take, [], [], false⟩
abbrev dk2 : DefK := ⟨.glo "_law_one", "_law_one", "_law_one", defArgs s_w_one, defBody s_w_one, defScope s_w_one, [], [], false⟩
abbrev dk3 : DefK := ⟨.glo "_law_steps", "_law_steps", "_law_steps", defArgs s_w_steps, defBody s_w_steps, defScope s_w_steps, [], [], false⟩
abbrev dk4 : DefK := ⟨.glo "_law_names", "_law_names", "_law_names", defArgs s_w_names, defBody s_w_names, defScope s_w_names, [], [], false⟩
abbrev dk5 : DefK := ⟨.glo "_law_mixed", "_law_mixed", "_law_mixed", defArgs s_w_mixed, defBody s_w_mixed, defScope s_w_mixed, [], [], false⟩
abbrev dk6 : DefK := ⟨.glo "_law_facts", "_law_facts", "_law_facts", defArgs s_w_facts, defBody s_w_facts, defScope s_w_facts, [], [], false⟩
abbrev dk7 : DefK := ⟨.glo "_law_shares", "_law_shares", "_law_shares", defArgs s_w_shares, defBody s_w_shares, defScope s_w_shares, [], [], false⟩
abbrev dk8 : DefK := ⟨.glo "is_list", "is_list", "is_list", defArgs s_is_list, defBody s_is_list, defScope s_is_list, [], [], false⟩
abbrev dk9 : DefK := ⟨.glo "is_name", "is_name", "is_name", defArgs s_is_name, defBody s_is_name, defScope s_is_name, [], [], false⟩
abbrev dk10 : DefK := ⟨.glo "is_whole", "is_whole", "is_whole", defArgs s_is_whole, defBody s_is_whole, defScope s_is_whole, [], [], false⟩
abbrev dk11 : DefK := ⟨.glo "common_divisor", "common_divisor", "common_divisor", defArgs s_common_divisor, defBody s_common_divisor, defScope s_common_divisor, [], [], false⟩
abbrev dk12 : DefK := ⟨.meth "Ratio" "__init__", "__init__", "Ratio.__init__", defArgs s_RatioD_initD, defBody s_RatioD_initD, defScope s_RatioD_initD, [.int 1], [], false⟩
abbrev dk13 : DefK := ⟨.prop "Ratio" "bottom", "bottom", "Ratio.bottom", defArgs s_Ratio_bottom, defBody s_Ratio_bottom, defScope s_Ratio_bottom, [], [], false⟩
abbrev dk14 : DefK := ⟨.prop "Ratio" "top", "top", "Ratio.top", defArgs s_Ratio_top, defBody s_Ratio_top, defScope s_Ratio_top, [], [], false⟩
abbrev dk15 : DefK := ⟨.meth "Ratio" "is_below", "is_below", "Ratio.is_below", defArgs s_Ratio_is_below, defBody s_Ratio_is_below, defScope s_Ratio_is_below, [], [], false⟩
abbrev dk16 : DefK := ⟨.glo "is_between", "is_between", "is_between", defArgs s_is_between, defBody s_is_between, defScope s_is_between, [], [], false⟩
abbrev dk17 : DefK := ⟨.meth "Ratio" "__bool__", "__bool__", "Ratio.__bool__", defArgs s_RatioD_boolD, defBody s_RatioD_boolD, defScope s_RatioD_boolD, [], [], false⟩
abbrev dk18 : DefK := ⟨.meth "Ratio" "__eq__", "__eq__", "Ratio.__eq__", defArgs s_RatioD_eqD, defBody s_RatioD_eqD, defScope s_RatioD_eqD, [], [], false⟩
abbrev dk19 : DefK := ⟨.glo "need_share", "need_share", "need_share", defArgs s_need_share, defBody s_need_share, defScope s_need_share, [], [], false⟩
abbrev dk20 : DefK := ⟨.glo "is_ratio", "is_ratio", "is_ratio", defArgs s_is_ratio, defBody s_is_ratio, defScope s_is_ratio, [], [], false⟩
abbrev dk21 : DefK := ⟨.glo "is_fact", "is_fact", "is_fact", defArgs s_is_fact, defBody s_is_fact, defScope s_is_fact, [], [], false⟩
abbrev dk22 : DefK := ⟨.meth "Ratio" "__neg__", "__neg__", "Ratio.__neg__", defArgs s_RatioD_negD, defBody s_RatioD_negD, defScope s_RatioD_negD, [], [], false⟩
abbrev dk23 : DefK := ⟨.glo "bounds_of", "bounds_of", "bounds_of", defArgs s_bounds_of, defBody s_bounds_of, defScope s_bounds_of, [], [], false⟩
abbrev dk24 : DefK := ⟨.meth "Ratio" "__add__", "__add__", "Ratio.__add__", defArgs s_RatioD_addD, defBody s_RatioD_addD, defScope s_RatioD_addD, [], [], false⟩
abbrev dk25 : DefK := ⟨.glo "closed_bounds", "closed_bounds", "closed_bounds", defArgs s_closed_bounds, defBody s_closed_bounds, defScope s_closed_bounds, [], [], false⟩
abbrev dk26 : DefK := ⟨.meth "Survey" "__init__", "__init__", "Survey.__init__", defArgs s_SurveyD_initD, defBody s_SurveyD_initD, defScope s_SurveyD_initD, [], [], true⟩
abbrev dk27 : DefK := ⟨.glo "_law_fact", "_law_fact", "_law_fact", defArgs s_w_fact, defBody s_w_fact, defScope s_w_fact, [], [], false⟩
abbrev dk28 : DefK := ⟨.glo "_law_survey", "_law_survey", "_law_survey", defArgs s_w_survey, defBody s_w_survey, defScope s_w_survey, [], [], false⟩
abbrev dk29 : DefK := ⟨.meth "Ratio" "__sub__", "__sub__", "Ratio.__sub__", defArgs s_RatioD_subD, defBody s_RatioD_subD, defScope s_RatioD_subD, [], [], false⟩
abbrev dk30 : DefK := ⟨.glo "_law_is_fit", "_law_is_fit", "_law_is_fit", defArgs s_w_is_fit, defBody s_w_is_fit, defScope s_w_is_fit, [], [], false⟩
abbrev dk31 : DefK := ⟨.meth "Survey" "names", "names", "Survey.names", defArgs s_Survey_names, defBody s_Survey_names, defScope s_Survey_names, [], [], false⟩
abbrev dk32 : DefK := ⟨.glo "has_bounds", "has_bounds", "has_bounds", defArgs s_has_bounds, defBody s_has_bounds, defScope s_has_bounds, [], [], false⟩
abbrev dk33 : DefK := ⟨.meth "Survey" "is_fit", "is_fit", "Survey.is_fit", defArgs s_Survey_is_fit, defBody s_Survey_is_fit, defScope s_Survey_is_fit, [], [], false⟩
abbrev dk34 : DefK := ⟨.glo "_law_like", "_law_like", "_law_like", defArgs s_w_like, defBody s_w_like, defScope s_w_like, [], [], false⟩
abbrev dk35 : DefK := ⟨.glo "law", "law", "law", defArgs s_law, defBody s_law, defScope s_law, [], [], false⟩
def q0 (K : PySem.W.Frag) : Bool := (He.Fa.glo "_law_begin").ok K
def q1 (K : PySem.W.Frag) : Bool := (He.Fa.glo "_law_take").ok K
def q2 (K : PySem.W.Frag) : Bool := (He.Fa.glo "_law_one").ok K
def q3 (K : PySem.W.Frag) : Bool := (He.Fa.glo "_law_steps").ok K
def q4 (K : PySem.W.Frag) : Bool := (He.Fa.glo "_law_names").ok K
def q5 (K : PySem.W.Frag) : Bool := (He.Fa.glo "_law_mixed").ok K
def q6 (K : PySem.W.Frag) : Bool := (He.Fa.glo "_law_facts").ok K
def q7 (K : PySem.W.Frag) : Bool := (He.Fa.glo "_law_shares").ok K
def q8 (K : PySem.W.Frag) : Bool := (He.Fa.glo "is_list").ok K
def q9 (K : PySem.W.Frag) : Bool := (He.Fa.glo "is_name").ok K
def q10 (K : PySem.W.Frag) : Bool := (He.Fa.glo "is_whole").ok K
def q11 (K : PySem.W.Frag) : Bool := (He.Fa.glo "common_divisor").ok K
def q12 (K : PySem.W.Frag) : Bool := He.eqO (PySem.W.findIn K (.ref (He.ga K "Ratio")) "__init__") (some (some (.ref (He.ma K (He.ga K "Ratio") "__init__"))))
def q13 (K : PySem.W.Frag) : Bool := PySem.W.isFn K (.ref (He.ma K (He.ga K "Ratio") "__init__"))
def q14 (K : PySem.W.Frag) : Bool := He.eqO (PySem.W.specialIn K (.ref (He.ma K (He.ga K "Ratio") "bottom")) "__get__") (some (some (.builtin "property.__get__")))
def q15 (K : PySem.W.Frag) : Bool := decide (PySem.W.takesIn K (.ref (He.ma K (He.ga K "Ratio") "bottom")) = some true)
def q16 (K : PySem.W.Frag) : Bool := recB K "property" (He.ma K (He.ga K "Ratio") "bottom")
def q17 (K : PySem.W.Frag) : Bool := He.eqO (PySem.W.findIn K (.ref (He.ga K "Ratio")) "bottom") (some (some (.ref (He.ma K (He.ga K "Ratio") "bottom"))))
def q18 (K : PySem.W.Frag) : Bool := He.eqO (PySem.W.specialIn K (.ref (He.ma K (He.ga K "Ratio") "top")) "__get__") (some (some (.builtin "property.__get__")))
def q19 (K : PySem.W.Frag) : Bool := decide (PySem.W.takesIn K (.ref (He.ma K (He.ga K "Ratio") "top")) = some true)
def q20 (K : PySem.W.Frag) : Bool := recB K "property" (He.ma K (He.ga K "Ratio") "top")
def q21 (K : PySem.W.Frag) : Bool := He.eqO (PySem.W.findIn K (.ref (He.ga K "Ratio")) "top") (some (some (.ref (He.ma K (He.ga K "Ratio") "top"))))
def q22 (K : PySem.W.Frag) : Bool := He.eqO (PySem.W.findIn K (.ref (He.ga K "Ratio")) "is_below") (some (some (.ref (He.ma K (He.ga K "Ratio") "is_below"))))
def q23 (K : PySem.W.Frag) : Bool := PySem.W.isFn K (.ref (He.ma K (He.ga K "Ratio") "is_below"))
def q24 (K : PySem.W.Frag) : Bool := (He.Fa.glo "is_between").ok K
def q25 (K : PySem.W.Frag) : Bool := He.eqO (PySem.W.findIn K (.ref (He.ga K "Ratio")) "__bool__") (some (some (.ref (He.ma K (He.ga K "Ratio") "__bool__"))))
def q26 (K : PySem.W.Frag) : Bool := PySem.W.isFn K (.ref (He.ma K (He.ga K "Ratio") "__bool__"))
def q27 (K : PySem.W.Frag) : Bool := He.eqO (PySem.W.findIn K (.ref (He.ga K "Ratio")) "__eq__") (some (some (.ref (He.ma K (He.ga K "Ratio") "__eq__"))))
def q28 (K : PySem.W.Frag) : Bool := PySem.W.isFn K (.ref (He.ma K (He.ga K "Ratio") "__eq__"))
def q29 (K : PySem.W.Frag) : Bool := (He.Fa.glo "need_share").ok K
def q30 (K : PySem.W.Frag) : Bool := (He.Fa.glo "is_ratio").ok K
def q31 (K : PySem.W.Frag) : Bool := (He.Fa.glo "is_fact").ok K
def q32 (K : PySem.W.Frag) : Bool := He.eqO (PySem.W.findIn K (.ref (He.ga K "Ratio")) "__neg__") (some (some (.ref (He.ma K (He.ga K "Ratio") "__neg__"))))
def q33 (K : PySem.W.Frag) : Bool := PySem.W.isFn K (.ref (He.ma K (He.ga K "Ratio") "__neg__"))
def q34 (K : PySem.W.Frag) : Bool := (He.Fa.glo "bounds_of").ok K
def q35 (K : PySem.W.Frag) : Bool := He.eqO (PySem.W.findIn K (.ref (He.ga K "Ratio")) "__add__") (some (some (.ref (He.ma K (He.ga K "Ratio") "__add__"))))
def q36 (K : PySem.W.Frag) : Bool := PySem.W.isFn K (.ref (He.ma K (He.ga K "Ratio") "__add__"))
def q37 (K : PySem.W.Frag) : Bool := (He.Fa.glo "closed_bounds").ok K
def q38 (K : PySem.W.Frag) : Bool := He.eqO (PySem.W.findIn K (.ref (He.ga K "Survey")) "__init__") (some (some (.ref (He.ma K (He.ga K "Survey") "__init__"))))
def q39 (K : PySem.W.Frag) : Bool := PySem.W.isFn K (.ref (He.ma K (He.ga K "Survey") "__init__"))
def q40 (K : PySem.W.Frag) : Bool := (He.Fa.glo "_law_fact").ok K
def q41 (K : PySem.W.Frag) : Bool := (He.Fa.glo "_law_survey").ok K
def q42 (K : PySem.W.Frag) : Bool := He.eqO (PySem.W.findIn K (.ref (He.ga K "Ratio")) "__sub__") (some (some (.ref (He.ma K (He.ga K "Ratio") "__sub__"))))
def q43 (K : PySem.W.Frag) : Bool := PySem.W.isFn K (.ref (He.ma K (He.ga K "Ratio") "__sub__"))
def q44 (K : PySem.W.Frag) : Bool := (He.Fa.glo "_law_is_fit").ok K
def q45 (K : PySem.W.Frag) : Bool := He.eqO (PySem.W.findIn K (.ref (He.ga K "Survey")) "names") (some (some (.ref (He.ma K (He.ga K "Survey") "names"))))
def q46 (K : PySem.W.Frag) : Bool := PySem.W.isFn K (.ref (He.ma K (He.ga K "Survey") "names"))
def q47 (K : PySem.W.Frag) : Bool := (He.Fa.glo "has_bounds").ok K
def q48 (K : PySem.W.Frag) : Bool := He.eqO (PySem.W.findIn K (.ref (He.ga K "Survey")) "is_fit") (some (some (.ref (He.ma K (He.ga K "Survey") "is_fit"))))
def q49 (K : PySem.W.Frag) : Bool := PySem.W.isFn K (.ref (He.ma K (He.ga K "Survey") "is_fit"))
def q50 (K : PySem.W.Frag) : Bool := (He.Fa.glo "_law_like").ok K
def q51 (K : PySem.W.Frag) : Bool := (He.Fa.glo "law").ok K
def q52 (K : PySem.W.Frag) : Bool := (He.Fa.free "abs").ok K
def q53 (K : PySem.W.Frag) : Bool := (He.Fa.free "all").ok K
def q54 (K : PySem.W.Frag) : Bool := (He.Fa.free "any").ok K
def q55 (K : PySem.W.Frag) : Bool := (He.Fa.free "bool").ok K
def q56 (K : PySem.W.Frag) : Bool := (He.Fa.free "enumerate").ok K
def q57 (K : PySem.W.Frag) : Bool := (He.Fa.free "int").ok K
def q58 (K : PySem.W.Frag) : Bool := (He.Fa.free "isinstance").ok K
def q59 (K : PySem.W.Frag) : Bool := (He.Fa.free "len").ok K
def q60 (K : PySem.W.Frag) : Bool := (He.Fa.free "list").ok K
def q61 (K : PySem.W.Frag) : Bool := (He.Fa.free "range").ok K
def q62 (K : PySem.W.Frag) : Bool := (He.Fa.free "str").ok K
def q63 (K : PySem.W.Frag) : Bool := (He.Fa.free "tuple").ok K
def q64 (K : PySem.W.Frag) : Bool := (He.Fa.free "zip").ok K
def q65 (K : PySem.W.Frag) : Bool := (He.Fa.glo "KINDS").ok K
def q66 (K : PySem.W.Frag) : Bool := tupB K (He.ga K "KINDS") [.str "out", .str "back"]
def q67 (K : PySem.W.Frag) : Bool := (He.Fa.str "LETTERS" "abcdefghijklmnopqrstuvwxyz").ok K
def q68 (K : PySem.W.Frag) : Bool := (He.Fa.int "LONGEST_NAME" 8).ok K
def q69 (K : PySem.W.Frag) : Bool := (He.Fa.int "MOST_LIGHTS" 12).ok K
def q70 (K : PySem.W.Frag) : Bool := tupB K (empA K (He.ma K (He.ga K "Survey") "__init__")) []
def q71 (K : PySem.W.Frag) : Bool := (He.Fa.cls "Ratio").ok K
def q72 (K : PySem.W.Frag) : Bool := (He.Fa.glo "Ratio").ok K
def q73 (K : PySem.W.Frag) : Bool := (He.Fa.cls "Survey").ok K
def q74 (K : PySem.W.Frag) : Bool := (He.Fa.glo "Survey").ok K
def q75 (K : PySem.W.Frag) : Bool := PySem.W.makesIn K (He.ga K "Ratio")
def q76 (K : PySem.W.Frag) : Bool := PySem.W.keepIn K (.ref (He.ga K "Ratio"))
def q77 (K : PySem.W.Frag) : Bool := PySem.W.makesIn K (He.ga K "Survey")
def q78 (K : PySem.W.Frag) : Bool := PySem.W.keepIn K (.ref (He.ga K "Survey"))
def q79 (K : PySem.W.Frag) : Bool := PySem.W.selfFirst K (He.ga K "Ratio")
def q80 (K : PySem.W.Frag) : Bool := (He.Fa.noat "Ratio" "own_bottom").ok K
def q81 (K : PySem.W.Frag) : Bool := (He.Fa.noat "Ratio" "own_top").ok K
def q82 (K : PySem.W.Frag) : Bool := (He.Fa.noat "Survey" "own_facts").ok K
def q83 (K : PySem.W.Frag) : Bool := (He.Fa.noat "Survey" "own_shares").ok K
def q84 (K : PySem.W.Frag) : Bool := (He.Fa.noat "Survey" "tables").ok K
def q85 (K : PySem.W.Frag) : Bool := He.eqO (PySem.W.specialIn K (.builtin "object.__class__") "__get__") (some (some (.builtin "getset_descriptor.__get__")))
def q86 (K : PySem.W.Frag) : Bool := decide (PySem.W.takesIn K (.builtin "object.__class__") = some true)
def q87 (K : PySem.W.Frag) : Bool := He.eqO (PySem.W.findIn K (.ref (He.ga K "Ratio")) "__class__") (some (some (.builtin "object.__class__")))
def q88 (K : PySem.W.Frag) : Bool := decide (PySem.W.mroIn K (He.ga K "Ratio") (.type "object") = some true)
def q89 (K : PySem.W.Frag) : Bool := PySem.W.notFirst K (He.ga K "Ratio") (.ref (He.ga K "Ratio"))
def q90 (K : PySem.W.Frag) : Bool := PySem.W.notFirst K (He.ga K "Ratio") (.type "NoneType")
def q91 (K : PySem.W.Frag) : Bool := PySem.W.notFirst K (He.ga K "Ratio") (.type "list")
def q92 (K : PySem.W.Frag) : Bool := PySem.W.notFirst K (He.ga K "Ratio") (.type "str")
def q93 (K : PySem.W.Frag) : Bool := PySem.W.notFirst K (He.ga K "Ratio") (.type "tuple")
def q94 (K : PySem.W.Frag) : Bool := decide (PySem.W.kitAny K (.type "NoneType") [.ref (He.ga K "Ratio")] = some false)
def q95 (K : PySem.W.Frag) : Bool := decide (PySem.W.kitAny K (.type "bool") [.ref (He.ga K "Ratio")] = some false)
def q96 (K : PySem.W.Frag) : Bool := decide (PySem.W.kitAny K (.type "int") [.ref (He.ga K "Ratio")] = some false)
def q97 (K : PySem.W.Frag) : Bool := decide (PySem.W.kitAny K (.type "str") [.ref (He.ga K "Ratio")] = some false)
def q98 (K : PySem.W.Frag) : Bool := decide (PySem.W.kitAny K (.type "tuple") [.ref (He.ga K "Ratio")] = some false)
def q99 (K : PySem.W.Frag) : Bool := decide (PySem.W.kitAny K (.type "list") [.ref (He.ga K "Ratio")] = some false)
def q100 (K : PySem.W.Frag) : Bool := decide (PySem.W.kitAny K (.ref (He.ga K "Ratio")) [.ref (He.ga K "Ratio")] = some true)
def q101 (K : PySem.W.Frag) : Bool := decide (PySem.W.kitAny K (.type "NoneType") [.type "bool"] = some false)
def q102 (K : PySem.W.Frag) : Bool := decide (PySem.W.kitAny K (.type "bool") [.type "bool"] = some true)
def q103 (K : PySem.W.Frag) : Bool := decide (PySem.W.kitAny K (.type "int") [.type "bool"] = some false)
def q104 (K : PySem.W.Frag) : Bool := decide (PySem.W.kitAny K (.type "str") [.type "bool"] = some false)
def q105 (K : PySem.W.Frag) : Bool := decide (PySem.W.kitAny K (.type "tuple") [.type "bool"] = some false)
def q106 (K : PySem.W.Frag) : Bool := decide (PySem.W.kitAny K (.type "list") [.type "bool"] = some false)
def q107 (K : PySem.W.Frag) : Bool := decide (PySem.W.kitAny K (.type "NoneType") [.type "bool"] = some false)
def q108 (K : PySem.W.Frag) : Bool := decide (PySem.W.kitAny K (.type "bool") [.type "bool"] = some true)
def q109 (K : PySem.W.Frag) : Bool := decide (PySem.W.kitAny K (.type "int") [.type "bool"] = some false)
def q110 (K : PySem.W.Frag) : Bool := decide (PySem.W.kitAny K (.type "str") [.type "bool"] = some false)
def q111 (K : PySem.W.Frag) : Bool := decide (PySem.W.kitAny K (.type "tuple") [.type "bool"] = some false)
def q112 (K : PySem.W.Frag) : Bool := decide (PySem.W.kitAny K (.type "list") [.type "bool"] = some false)
def q113 (K : PySem.W.Frag) : Bool := decide (PySem.W.kitAny K (.ref (He.ga K "Ratio")) [.type "bool"] = some false)
def q114 (K : PySem.W.Frag) : Bool := decide (PySem.W.kitAny K (.type "NoneType") [.type "int"] = some false)
def q115 (K : PySem.W.Frag) : Bool := decide (PySem.W.kitAny K (.type "bool") [.type "int"] = some true)
def q116 (K : PySem.W.Frag) : Bool := decide (PySem.W.kitAny K (.type "int") [.type "int"] = some true)
def q117 (K : PySem.W.Frag) : Bool := decide (PySem.W.kitAny K (.type "str") [.type "int"] = some false)
def q118 (K : PySem.W.Frag) : Bool := decide (PySem.W.kitAny K (.type "tuple") [.type "int"] = some false)
def q119 (K : PySem.W.Frag) : Bool := decide (PySem.W.kitAny K (.type "list") [.type "int"] = some false)
def q120 (K : PySem.W.Frag) : Bool := decide (PySem.W.kitAny K (.type "NoneType") [.type "int"] = some false)
def q121 (K : PySem.W.Frag) : Bool := decide (PySem.W.kitAny K (.type "bool") [.type "int"] = some true)
def q122 (K : PySem.W.Frag) : Bool := decide (PySem.W.kitAny K (.type "int") [.type "int"] = some true)
def q123 (K : PySem.W.Frag) : Bool := decide (PySem.W.kitAny K (.type "str") [.type "int"] = some false)
def q124 (K : PySem.W.Frag) : Bool := decide (PySem.W.kitAny K (.type "tuple") [.type "int"] = some false)
def q125 (K : PySem.W.Frag) : Bool := decide (PySem.W.kitAny K (.type "list") [.type "int"] = some false)
def q126 (K : PySem.W.Frag) : Bool := decide (PySem.W.kitAny K (.ref (He.ga K "Ratio")) [.type "int"] = some false)
def q127 (K : PySem.W.Frag) : Bool := decide (PySem.W.kitAny K (.type "NoneType") [.type "list"] = some false)
def q128 (K : PySem.W.Frag) : Bool := decide (PySem.W.kitAny K (.type "bool") [.type "list"] = some false)
def q129 (K : PySem.W.Frag) : Bool := decide (PySem.W.kitAny K (.type "int") [.type "list"] = some false)
def q130 (K : PySem.W.Frag) : Bool := decide (PySem.W.kitAny K (.type "str") [.type "list"] = some false)
def q131 (K : PySem.W.Frag) : Bool := decide (PySem.W.kitAny K (.type "tuple") [.type "list"] = some false)
def q132 (K : PySem.W.Frag) : Bool := decide (PySem.W.kitAny K (.type "list") [.type "list"] = some true)
def q133 (K : PySem.W.Frag) : Bool := decide (PySem.W.kitAny K (.type "NoneType") [.type "list", .type "tuple"] = some false)
def q134 (K : PySem.W.Frag) : Bool := decide (PySem.W.kitAny K (.type "bool") [.type "list", .type "tuple"] = some false)
def q135 (K : PySem.W.Frag) : Bool := decide (PySem.W.kitAny K (.type "int") [.type "list", .type "tuple"] = some false)
def q136 (K : PySem.W.Frag) : Bool := decide (PySem.W.kitAny K (.type "str") [.type "list", .type "tuple"] = some false)
def q137 (K : PySem.W.Frag) : Bool := decide (PySem.W.kitAny K (.type "tuple") [.type "list", .type "tuple"] = some true)
def q138 (K : PySem.W.Frag) : Bool := decide (PySem.W.kitAny K (.type "list") [.type "list", .type "tuple"] = some true)
def q139 (K : PySem.W.Frag) : Bool := decide (PySem.W.kitAny K (.type "NoneType") [.type "str"] = some false)
def q140 (K : PySem.W.Frag) : Bool := decide (PySem.W.kitAny K (.type "bool") [.type "str"] = some false)
def q141 (K : PySem.W.Frag) : Bool := decide (PySem.W.kitAny K (.type "int") [.type "str"] = some false)
def q142 (K : PySem.W.Frag) : Bool := decide (PySem.W.kitAny K (.type "str") [.type "str"] = some true)
def q143 (K : PySem.W.Frag) : Bool := decide (PySem.W.kitAny K (.type "tuple") [.type "str"] = some false)
def q144 (K : PySem.W.Frag) : Bool := decide (PySem.W.kitAny K (.type "list") [.type "str"] = some false)
def q145 (K : PySem.W.Frag) : Bool := decide (PySem.W.kitAny K (.type "NoneType") [.type "str"] = some false)
def q146 (K : PySem.W.Frag) : Bool := decide (PySem.W.kitAny K (.type "bool") [.type "str"] = some false)
def q147 (K : PySem.W.Frag) : Bool := decide (PySem.W.kitAny K (.type "int") [.type "str"] = some false)
def q148 (K : PySem.W.Frag) : Bool := decide (PySem.W.kitAny K (.type "str") [.type "str"] = some true)
def q149 (K : PySem.W.Frag) : Bool := decide (PySem.W.kitAny K (.type "tuple") [.type "str"] = some false)
def q150 (K : PySem.W.Frag) : Bool := decide (PySem.W.kitAny K (.type "list") [.type "str"] = some false)
def q151 (K : PySem.W.Frag) : Bool := decide (PySem.W.kitAny K (.ref (He.ga K "Ratio")) [.type "str"] = some false)
def q152 (K : PySem.W.Frag) : Bool := decide (PySem.W.kitAny K (.type "NoneType") [.type "tuple"] = some false)
def q153 (K : PySem.W.Frag) : Bool := decide (PySem.W.kitAny K (.type "bool") [.type "tuple"] = some false)
def q154 (K : PySem.W.Frag) : Bool := decide (PySem.W.kitAny K (.type "int") [.type "tuple"] = some false)
def q155 (K : PySem.W.Frag) : Bool := decide (PySem.W.kitAny K (.type "str") [.type "tuple"] = some false)
def q156 (K : PySem.W.Frag) : Bool := decide (PySem.W.kitAny K (.type "tuple") [.type "tuple"] = some true)
def q157 (K : PySem.W.Frag) : Bool := decide (PySem.W.kitAny K (.type "list") [.type "tuple"] = some false)
def q158 (K : PySem.W.Frag) : Bool := decide (PySem.W.kitAny K (.type "NoneType") [.type "tuple"] = some false)
def q159 (K : PySem.W.Frag) : Bool := decide (PySem.W.kitAny K (.type "bool") [.type "tuple"] = some false)
def q160 (K : PySem.W.Frag) : Bool := decide (PySem.W.kitAny K (.type "int") [.type "tuple"] = some false)
def q161 (K : PySem.W.Frag) : Bool := decide (PySem.W.kitAny K (.type "str") [.type "tuple"] = some false)
def q162 (K : PySem.W.Frag) : Bool := decide (PySem.W.kitAny K (.type "tuple") [.type "tuple"] = some true)
def q163 (K : PySem.W.Frag) : Bool := decide (PySem.W.kitAny K (.type "list") [.type "tuple"] = some false)
def q164 (K : PySem.W.Frag) : Bool := decide (PySem.W.kitAny K (.ref (He.ga K "Ratio")) [.type "tuple"] = some false)
def q165 (K : PySem.W.Frag) : Bool := decide ((He.ga K "Ratio") ≠ (He.ga K "Survey"))
def fs0 : List (PySem.W.Frag → Bool) := [q0, q1, q2, q3, q4, q5, q6, q7, q8, q9, q10, q11, q12, q13, q14, q15, q16, q17, q18, q19, q20, q21, q22, q23, q24, q25, q26, q27, q28, q29]
def fs1 : List (PySem.W.Frag → Bool) := [q30, q31, q32, q33, q34, q35, q36, q37, q38, q39, q40, q41, q42, q43, q44, q45, q46, q47, q48, q49, q50, q51, q52, q53, q54, q55, q56, q57, q58, q59]
def fs2 : List (PySem.W.Frag → Bool) := [q60, q61, q62, q63, q64, q65, q66, q67, q68, q69, q70, q71, q72, q73, q74, q75, q76, q77, q78, q79, q80, q81, q82, q83, q84, q85, q86, q87, q88, q89]
def fs3 : List (PySem.W.Frag → Bool) := [q90, q91, q92, q93, q94, q95, q96, q97, q98, q99, q100, q101, q102, q103, q104, q105, q106, q107, q108, q109, q110, q111, q112, q113, q114, q115, q116, q117, q118, q119]
def fs4 : List (PySem.W.Frag → Bool) := [q120, q121, q122, q123, q124, q125, q126, q127, q128, q129, q130, q131, q132, q133, q134, q135, q136, q137, q138, q139, q140, q141, q142, q143, q144, q145, q146, q147, q148, q149]
def fs5 : List (PySem.W.Frag → Bool) := [q150, q151, q152, q153, q154, q155, q156, q157, q158, q159, q160, q161, q162, q163, q164, q165]
def fs : List (PySem.W.Frag → Bool) := fs0 ++ (fs1 ++ (fs2 ++ (fs3 ++ (fs4 ++ (fs5)))))
def ds0 : List DefK := [dk0, dk1, dk2, dk3, dk4, dk5, dk6, dk7, dk8, dk9, dk10, dk11, dk12, dk13, dk14, dk15, dk16, dk17, dk18, dk19, dk20, dk21, dk22, dk23, dk24, dk25, dk26, dk27, dk28, dk29]
def ds1 : List DefK := [dk30, dk31, dk32, dk33, dk34, dk35]
def ds : List DefK := ds0 ++ (ds1)
def loose0 : List Str := ["_wall", "CycleError", "InvalidRatio", "InvalidName", "InvalidShare", "InvalidStreet", "InvalidFact", "DuplicateName", "TooMany", "Contradiction", "LETTERS", "LONGEST_NAME", "is_name", "is_whole", "is_list", "LONGEST_TEXT", "FIGURES", "common_divisor", "whole_in", "Ratio", "is_ratio", "is_between", "need_share", "MOST_LIGHTS", "KINDS", "is_fact", "bounds_of", "closed_bounds", "has_bounds", "Survey"]
def loose1 : List Str := ["_law_begin", "_law_take", "_law_one", "_law_mixed", "_law_like", "_law_names", "_law_steps", "_law_facts", "_law_fact", "_law_survey", "_law_shares", "_law_is_fit"]
def loose : List Str := loose0 ++ (loose1)
abbrev R0 : PySem.W.OpenRow := PySem.W.OpenLaw.row PySem.Challenge.rw_bothgreen_k48_fits_of_surveys
abbrev qv : Program := PySem.W.view R0.prog [48]
def ob (s : PySem.W.SharedT) : AlK := obsKG 6 fs ds (HandSHeadRun.getT s)
theorem ob_eq (s : PySem.W.SharedT) : ob s = (hookK 6 fs ds).obs s.abs := obsKG_eq (HandSHeadRun.getT_eq s)
theorem run (w : World) : HandSHeadRun.RunEq R0 qv (hookK 6 fs ds) ob 40000 loose w := by
  intro os
  kernel_rfl
end W

namespace DL
open PySem PySem.Spec PyProof.Rows L2
structure LamT where
  qual : Str
  params : Arguments
  body : Expr
  scope : Scope
  ps : List Str
  dds : List Int
  free : List Str
class LamTab where
  tab : Nat → LamT
  tbls : PySem.W.Frag → List (Addr × Str)
variable [LamTab]
def pinO (b : Addr) (o : Obj) : HO := .ext fun h => h.get? b = some o
def XobAt (F : Hp) (C a : Addr) (vs : List (Str × V)) : Prop := ∃ (oe : Obj) (dx : Addr), F a = some (pinO a oe) ∧ oe.cls = .ref C ∧ oe.dict = some dx ∧ (∃ w, oe.data = .fields w) ∧ F dx = some (.xd vs)
def LamO (t : LamT) (g : List (Str × Addr)) (dV : Value) (c : Addr) (o : Obj) : Prop := ∃ (pm ctv : Value), o = { cls := .type "function", data := .func { name := "<lambda>", qualname := t.qual, params := t.params, body := .expr t.body, scope := t.scope, globals := mainGlobals, closure := g, defaults := dV, kwdefaults := .none, doc := .none, pyModule := pm, annotations := none, code := .ref c, closureTuple := ctv, builtins := builtinsNs } }
def LamD (F : Hp) (t : LamT) (dV : Value) : Prop := (t.dds = [] ∧ dV = .none) ∨ ∃ (T : Addr) (us : List Value), dV = .ref T ∧ F T = some (pinO T { cls := .type "tuple", data := .seq us.toArray }) ∧ Vals (t.dds.map V.int) us
def LamAt (F : Hp) (t : LamT) (g : List (Str × Addr)) (a : Addr) : Prop := ∃ (o : Obj) (dV : Value) (c : Addr), F a = some (pinO a o) ∧ LamO t g dV c o ∧ LamD F t dV ∧ F c = some (LamX.CodeO c t.qual) ∧ (∀ y z c, g.lookup y = some c → g.lookup z = some c → y = z) ∧ (∀ y ∈ t.scope.names, y.2 = .free → ∃ c, g.lookup y.1 = some c) ∧ ∀ y c, g.lookup y = some c → y ∈ t.free
def CelAt (F : Hp) (names : List Str) (g : List (Str × Addr)) (vs : List V) : Prop := ∀ (i : Nat) (y : Str) (v : V), names[i]? = some y → vs[i]? = some v → ∃ (c : Addr) (oc : Obj) (u : Value), g.lookup y = some c ∧ F c = some (pinO c oc) ∧ oc.data = .cell (some u) ∧ RelV v u
structure Kl where
  a : Addr
  ns : List Str
  deriving DecidableEq
inductive D where
  | non | bl (b : Bool) | int (i : Int) | str (x : Str)
  | tup (ds : List D) | lst (ds : List D)
  | obj (c : Kl) (ds : List D)
  | loc (n : Nat)
  | val (v : V)
  | xob (c : Kl) (ds : List D)
  | lam (k : Nat) (g : List (Str × Addr))
  | clo (k : Nat) (ds : List D)
  | dct (ks : List Str) (ds : List D)
mutual
inductive Rep (K : PySem.W.Frag) (ι : List Addr) (F : Hp) : D → V → Prop
  | non : Rep K ι F .non .non
  | bl (b : Bool) : Rep K ι F (.bl b) (.bl b)
  | int (i : Int) : Rep K ι F (.int i) (.int i)
  | str (x : Str) : Rep K ι F (.str x) (.str x)
  | tup {ds : List D} {a : Addr} {xs : List V} : SqT K F a xs → Reps K ι F ds xs → Rep K ι F (.tup ds) (.ref a)
  | lst {ds : List D} {a : Addr} {xs : List V} : SqL K F a xs → Reps K ι F ds xs → Rep K ι F (.lst ds) (.ref a)
  | obj {c : Kl} {ds : List D} {a dx : Addr} {vs : List (Str × V)} : F a = some (.ins c.a dx vs) → vs.map (·.1) = c.ns → Reps K ι F ds (vs.map (·.2)) → Rep K ι F (.obj c ds) (.ref a)
  | loc {n : Nat} {a : Addr} : ι[n]? = some a → Rep K ι F (.loc n) (.ref a)
  | val (v : V) : Rep K ι F (.val v) v
  | xob {c : Kl} {ds : List D} {a : Addr} {vs : List (Str × V)} : XobAt F c.a a vs → vs.map (·.1) = c.ns → Reps K ι F ds (vs.map (·.2)) → Rep K ι F (.xob c ds) (.ref a)
  | lam {k : Nat} {g : List (Str × Addr)} {a : Addr} : LamAt F (LamTab.tab k) g a → Rep K ι F (.lam k g) (.ref a)
  | clo {k : Nat} {ds : List D} {g : List (Str × Addr)} {a : Addr} {vs : List V} : LamAt F (LamTab.tab k) g a → CelAt F (LamTab.tab k).free g vs → Reps K ι F ds vs → Rep K ι F (.clo k ds) (.ref a)
  | dct {ks : List Str} {ds : List D} {a : Addr} {kvs : List (Key × V)} : F a = some (.dK kvs) → kvs.map (·.1) = ks.map Sum.inr → Reps K ι F ds (kvs.map (·.2)) → Rep K ι F (.dct ks ds) (.ref a)
inductive Reps (K : PySem.W.Frag) (ι : List Addr) (F : Hp) : List D → List V → Prop
  | nil : Reps K ι F [] []
  | cons {d : D} {v : V} {ds : List D} {vs : List V} : Rep K ι F d v → Reps K ι F ds vs → Reps K ι F (d :: ds) (v :: vs)
inductive RepF (K : PySem.W.Frag) (ι : List Addr) (F : Hp) : List (Str × D) → List (Str × V) → Prop
  | nil : RepF K ι F [] []
  | cons {f : Str} {d : D} {v : V} {fs : List (Str × D)} {vs : List (Str × V)} : Rep K ι F d v → RepF K ι F fs vs → RepF K ι F ((f, d) :: fs) ((f, v) :: vs)
end
def Ext (H H' : Hp) : Prop := ∀ a o, H a = some o → H' a = some o
theorem Ext.refl (H : Hp) : Ext H H := fun _ _ h => h
theorem Ext.trans {H H1 H2 : Hp} (a : Ext H H1) (b : Ext H1 H2) : Ext H H2 := fun c o h => b c o (a c o h)
theorem SqL.ext' {K : PySem.W.Frag} {H H' : Hp} {a : Addr} {xs : List V} (h : SqL K H a xs) (e : Ext H H') : SqL K H' a xs := by
  rcases h with (h | ⟨o, h⟩) | h
  · exact .inl (.inl (e _ _ h))
  · exact .inl (.inr ⟨o, e _ _ h⟩)
  · exact .inr h
theorem SqT.ext' {K : PySem.W.Frag} {H H' : Hp} {a : Addr} {xs : List V} (h : SqT K H a xs) (e : Ext H H') : SqT K H' a xs := by
  rcases h with (h | ⟨o, h⟩) | h
  · exact .inl (.inl (e _ _ h))
  · exact .inl (.inr ⟨o, e _ _ h⟩)
  · exact .inr h
theorem XobAt.ext {F F' : Hp} {C a : Addr} {vs : List (Str × V)} (h : XobAt F C a vs) (e : Ext F F') : XobAt F' C a vs := by
  obtain ⟨oe, dx, h1, h2, h3, h4, h5⟩ := h
  exact ⟨oe, dx, e _ _ h1, h2, h3, h4, e _ _ h5⟩
theorem LamAt.ext {F F' : Hp} {t : LamT} {g : List (Str × Addr)} {a : Addr} (h : LamAt F t g a) (e : Ext F F') : LamAt F' t g a := by
  obtain ⟨o, dV, c, h1, h2, h3, h4, h5⟩ := h
  refine ⟨o, dV, c, e _ _ h1, h2, ?_, e _ _ h4, h5⟩
  rcases h3 with h3 | ⟨T, us, k1, k2, k3⟩
  · exact .inl h3
  · exact .inr ⟨T, us, k1, e _ _ k2, k3⟩
theorem CelAt.ext {F F' : Hp} {names : List Str} {g : List (Str × Addr)} {vs : List V} (h : CelAt F names g vs) (e : Ext F F') : CelAt F' names g vs := fun i y v h1 h2 =>
  let ⟨c, oc, u, k1, k2, k3⟩ := h i y v h1 h2
  ⟨c, oc, u, k1, e _ _ k2, k3⟩
section
variable {K : PySem.W.Frag} {ι ι' : List Addr} {F F' : Hp}
theorem pre_get {ι ι' : List Addr} (hp : ι <+: ι') {n : Nat} {a : Addr} (h : ι[n]? = some a) : ι'[n]? = some a := by
  obtain ⟨t, rfl⟩ := hp
  rw [List.getElem?_append_left (List.getElem?_eq_some_iff.mp h).1]
  exact h
mutual
theorem Rep.mono (hp : ι <+: ι') (e : Ext F F') : ∀ {d : D} {v : V}, Rep K ι F d v → Rep K ι' F' d v
  | _, _, .non => .non
  | _, _, .bl b => .bl b
  | _, _, .int i => .int i
  | _, _, .str x => .str x
  | _, _, .tup h r => .tup (SqT.ext' h e) (Reps.mono hp e r)
  | _, _, .lst h r => .lst (SqL.ext' h e) (Reps.mono hp e r)
  | _, _, .obj h n r => .obj (e _ _ h) n (Reps.mono hp e r)
  | _, _, .loc h => .loc (pre_get hp h)
  | _, _, .val v => .val v
  | _, _, .xob h n r => .xob (h.ext e) n (Reps.mono hp e r)
  | _, _, .lam h => .lam (h.ext e)
  | _, _, .clo h h2 r => .clo (h.ext e) (h2.ext e) (Reps.mono hp e r)
  | _, _, .dct h n r => .dct (e _ _ h) n (Reps.mono hp e r)
theorem Reps.mono (hp : ι <+: ι') (e : Ext F F') : ∀ {ds : List D} {vs : List V}, Reps K ι F ds vs → Reps K ι' F' ds vs
  | _, _, .nil => .nil
  | _, _, .cons h r => .cons (Rep.mono hp e h) (Reps.mono hp e r)
theorem RepF.mono (hp : ι <+: ι') (e : Ext F F') : ∀ {ds : List (Str × D)} {vs : List (Str × V)}, RepF K ι F ds vs → RepF K ι' F' ds vs
  | _, _, .nil => .nil
  | _, _, .cons h r => .cons (Rep.mono hp e h) (RepF.mono hp e r)
end
theorem Reps.len : ∀ {ds : List D} {vs : List V}, Reps K ι F ds vs → ds.length = vs.length
  | _, _, .nil => rfl
  | _, _, .cons _ r => congrArg Nat.succ (Reps.len r)
theorem Reps.get : ∀ {ds : List D} {vs : List V} {i : Nat} {d : D}, Reps K ι F ds vs → ds[i]? = some d → ∃ v, vs[i]? = some v ∧ Rep K ι F d v
  | _, _, _, _, .nil, e => by simp at e
  | _, _, 0, _, .cons h r, e => by simp at e; subst e; exact ⟨_, rfl, h⟩
  | _, _, i + 1, d, .cons h r, e => by
    obtain ⟨v, h1, h2⟩ := Reps.get (i := i) (d := d) r (by simpa using e)
    exact ⟨v, by simpa using h1, h2⟩
theorem Reps.append : ∀ {ds es : List D} {vs us : List V}, Reps K ι F ds vs → Reps K ι F es us → Reps K ι F (ds ++ es) (vs ++ us)
  | _, _, _, _, .nil, s => s
  | _, _, _, _, .cons h r, s => .cons h (Reps.append r s)
theorem Reps.take : ∀ {ds : List D} {vs : List V} (n : Nat), Reps K ι F ds vs → Reps K ι F (ds.take n) (vs.take n)
  | _, _, 0, _ => .nil
  | _, _, _ + 1, .nil => .nil
  | _, _, n + 1, .cons h r => .cons h (Reps.take n r)
theorem Reps.drop : ∀ {ds : List D} {vs : List V} (n : Nat), Reps K ι F ds vs → Reps K ι F (ds.drop n) (vs.drop n)
  | _, _, 0, r => r
  | _, _, _ + 1, .nil => .nil
  | _, _, n + 1, .cons _ r => Reps.drop n r
theorem Reps.set {d : D} {v : V} (h : Rep K ι F d v) : ∀ {ds : List D} {vs : List V} (i : Nat), Reps K ι F ds vs → Reps K ι F (ds.set i d) (vs.set i v)
  | _, _, _, .nil => .nil
  | _, _, 0, .cons _ r => .cons h r
  | _, _, i + 1, .cons q r => .cons q (Reps.set h i r)
theorem RepF.get : ∀ {fs : List (Str × D)} {vs : List (Str × V)} {f : Str} {d : D}, RepF K ι F fs vs → fs.lookup f = some d → ∃ v, vs.lookup f = some v ∧ Rep K ι F d v
  | _, _, _, _, .nil, e => by simp at e
  | _, _, f, d, .cons (f := g) h r, e => by
    rw [List.lookup_cons] at e ⊢
    cases hb : f == g with
    | true => rw [hb] at e; cases e; exact ⟨_, rfl, h⟩
    | false => rw [hb] at e; exact RepF.get r e
theorem RepF.none : ∀ {fs : List (Str × D)} {vs : List (Str × V)} {f : Str}, RepF K ι F fs vs → fs.lookup f = .none → vs.lookup f = .none
  | _, _, _, .nil, e => rfl
  | _, _, f, .cons (f := g) h r, e => by
    rw [List.lookup_cons] at e ⊢
    cases hb : f == g with
    | true => rw [hb] at e; cases e
    | false => rw [hb] at e; exact RepF.none r e
theorem RepF.len : ∀ {fs : List (Str × D)} {vs : List (Str × V)}, RepF K ι F fs vs → fs.length = vs.length
  | _, _, .nil => rfl
  | _, _, .cons _ r => congrArg Nat.succ (RepF.len r)
def putD (f : Str) (d : D) : List (Str × D) → List (Str × D)
  | [] => [(f, d)]
  | (g, e) :: r => if g = f then (g, d) :: r else (g, e) :: putD f d r
end
end DL

namespace DL
open PySem PySem.Spec PyProof.Rows L2
variable [LamTab]
inductive Mo where
  | lst (ds : List D)
  | ins (C : Addr) (fs : List (Str × D))
  | exo (C : Addr) (d : Option Nat)
  | exd (fs : List (Str × D))
  | dik (kvs : List (Key × D))
  | dit (kvs : List (List Key × D))
abbrev Mu := List Mo
abbrev En := List (Option D)
structure Wd where
  i : List Addr
  F : Hp
  H : Hp
def MoOk (K : PySem.W.Frag) (S : Wd) (a : Addr) : Mo → Prop
  | .lst ds => ∃ xs, S.H a = some (.lst xs) ∧ Reps K S.i S.F ds xs
  | .ins C fs => ∃ dx vs, S.H a = some (.ins C dx vs) ∧ RepF K S.i S.F fs vs
  | .exo C none => S.H a = some (exo a C none)
  | .exo C (some k) => ∃ dx, S.i[k]? = some dx ∧ S.H a = some (exo a C (some dx))
  | .exd fs => ∃ vs, S.H a = some (exd a vs) ∧ RepF K S.i S.F fs vs
  | .dik kvs => ∃ vs : List (Key × V), S.H a = some (.dK vs) ∧ kvs.map (·.1) = vs.map (·.1) ∧ Reps K S.i S.F (kvs.map (·.2)) (vs.map (·.2))
  | .dit kvs => ∃ vs : List (List Key × V), S.H a = some (.dT vs) ∧ kvs.map (·.1) = vs.map (·.1) ∧ Reps K S.i S.F (kvs.map (·.2)) (vs.map (·.2))
def TbOk (K : PySem.W.Frag) (S : Wd) : Prop := ∀ p ∈ LamTab.tbls K, ∃ ps : Array Value, S.H p.1 = some (.tbl ps) ∧ S.F p.1 = none ∧ p.1 ∉ S.i ∧ TriplesOk ps.toList ∧ ∀ (pos : Pos) (cv : Value), codeAmong pos ps.toList = some cv → ∃ c, cv = .ref c ∧ S.F c = some (LamX.CodeO c p.2)
structure Sta (K : PySem.W.Frag) (S : Wd) (m : Mu) : Prop where
  nd : S.i.Nodup
  len : S.i.length = m.length
  sub : Ext S.F S.H
  dis : ∀ a ∈ S.i, S.F a = none
  tr : ∀ a ∈ S.i, ∃ o, S.H a = some o
  ok : ∀ (n : Nat) a o, S.i[n]? = some a → m[n]? = some o → MoOk K S a o
  tb : TbOk K S
structure Stp (S T : Wd) : Prop where
  pre : S.i <+: T.i
  ext : Ext S.F T.F
  frame : ∀ a o, (∀ ps, o ≠ .tbl ps) → S.H a = some o → S.F a = none → a ∉ S.i → T.H a = some o ∧ T.F a = none ∧ a ∉ T.i
  old : ∀ a, T.H a = none → S.H a = none
theorem upd_none {H : Hp} {p a : Addr} {o : HO} (h : upd H p o a = none) : H a = none := by
  by_cases e : a = p
  · subst e; rw [upd_same] at h; cases h
  · rw [upd_ne e] at h; exact h
theorem Stp.refl (S : Wd) : Stp S S := ⟨List.prefix_refl _, Ext.refl _, fun _ _ _ h1 h2 h3 => ⟨h1, h2, h3⟩, fun _ h => h⟩
theorem Stp.trans {S T U : Wd} (a : Stp S T) (b : Stp T U) : Stp S U := ⟨a.pre.trans b.pre, a.ext.trans b.ext, fun c o hn h1 h2 h3 =>
  let ⟨k1, k2, k3⟩ := a.frame c o hn h1 h2 h3
  b.frame c o hn k1 k2 k3, fun c h => a.old c (b.old c h)⟩
theorem Rep.stp {K : PySem.W.Frag} {S T : Wd} (s : Stp S T) {d : D} {v : V} (r : Rep K S.i S.F d v) : Rep K T.i T.F d v := r.mono s.pre s.ext
theorem Reps.stp {K : PySem.W.Frag} {S T : Wd} (s : Stp S T) {d : List D} {v : List V} (r : Reps K S.i S.F d v) : Reps K T.i T.F d v := r.mono s.pre s.ext
theorem RepF.stp {K : PySem.W.Frag} {S T : Wd} (s : Stp S T) {d : List (Str × D)} {v : List (Str × V)} (r : RepF K S.i S.F d v) : RepF K T.i T.F d v := r.mono s.pre s.ext
theorem Sta.fresh {K : PySem.W.Frag} {S : Wd} {m : Mu} (sa : Sta K S m) {p : Addr} (h : S.H p = none) : S.F p = none ∧ p ∉ S.i := by
  constructor
  · cases q : S.F p with
    | none => rfl
    | some o => rw [sa.sub p o q] at h; cases h
  · intro hp
    obtain ⟨o, e⟩ := sa.tr p hp
    rw [h] at e; cases e
def Wd.new (S : Wd) (p : Addr) (o : HO) : Wd := ⟨S.i, upd S.F p o, upd S.H p o⟩
theorem Ext.updNew {H : Hp} {p : Addr} {o : HO} (h : H p = none) : Ext H (upd H p o) := fun a u e => by rw [upd_ne (ne_of_none e h)]; exact e
theorem Stp.new {K : PySem.W.Frag} {S : Wd} {m : Mu} (sa : Sta K S m) {p : Addr} {o : HO} (h : S.H p = none) : Stp S (S.new p o) := by
  refine ⟨List.prefix_refl _, Ext.updNew (sa.fresh h).1, fun a u _ h1 h2 h3 => ?_, fun a z => upd_none z⟩
  have ne : a ≠ p := ne_of_none h1 h
  exact ⟨by show upd S.H p o a = _; rw [upd_ne ne]; exact h1, by show upd S.F p o a = _; rw [upd_ne ne]; exact h2, h3⟩
theorem MoOk.stp {K : PySem.W.Frag} {S T : Wd} (s : Stp S T) {a : Addr} {o : Mo} (h : MoOk K S a o) (e : T.H a = S.H a) : MoOk K T a o := by
  cases o with
  | lst ds => obtain ⟨xs, h1, h2⟩ := h; exact ⟨xs, by rw [e]; exact h1, h2.stp s⟩
  | ins C fs => obtain ⟨dx, vs, h1, h2⟩ := h; exact ⟨dx, vs, by rw [e]; exact h1, h2.stp s⟩
  | exo C d =>
    cases d with
    | none => exact (show T.H a = _ from e.trans h)
    | some k => obtain ⟨dx, h1, h2⟩ := h; exact ⟨dx, pre_get s.pre h1, by rw [e]; exact h2⟩
  | exd fs => obtain ⟨vs, h1, h2⟩ := h; exact ⟨vs, by rw [e]; exact h1, h2.stp s⟩
  | dik kvs => obtain ⟨vs, h1, h0, h2⟩ := h; exact ⟨vs, by rw [e]; exact h1, h0, h2.stp s⟩
  | dit kvs => obtain ⟨vs, h1, h0, h2⟩ := h; exact ⟨vs, by rw [e]; exact h1, h0, h2.stp s⟩
theorem Sta.new {K : PySem.W.Frag} {S : Wd} {m : Mu} (sa : Sta K S m) {p : Addr} {o : HO} (h : S.H p = none) : Sta K (S.new p o) m := by
  have st := Stp.new sa (o := o) h
  have f := sa.fresh h
  refine ⟨sa.nd, sa.len, fun a u e => ?_, fun a ha => ?_, fun a ha => ?_, fun n a q h1 h2 => ?_, fun q hq => ?tb⟩
  case tb =>
    obtain ⟨ps, t1, t2, t3, t4, t5⟩ := sa.tb q hq
    have ne : q.1 ≠ p := ne_of_none t1 h
    exact ⟨ps, by show upd S.H p o q.1 = _; rw [upd_ne ne]; exact t1, by show upd S.F p o q.1 = _; rw [upd_ne ne]; exact t2, t3, t4, fun pos cv hc => let ⟨c, c1, c2⟩ := t5 pos cv hc; ⟨c, c1, st.ext _ _ c2⟩⟩
  · show upd S.H p o a = some u
    have e : upd S.F p o a = some u := e
    by_cases hp : a = p
    · subst hp; rw [upd_same] at e ⊢; exact e
    · rw [upd_ne hp] at e ⊢; exact sa.sub a u e
  · have ne : a ≠ p := fun z => f.2 (z ▸ ha)
    show upd S.F p o a = none
    rw [upd_ne ne]; exact sa.dis a ha
  · have ne : a ≠ p := fun z => f.2 (z ▸ ha)
    obtain ⟨u, e⟩ := sa.tr a ha
    exact ⟨u, by show upd S.H p o a = _; rw [upd_ne ne]; exact e⟩
  · have ne : a ≠ p := fun z => f.2 (z ▸ List.mem_of_getElem? h1)
    exact (sa.ok n a q h1 h2).stp st (upd_ne ne)
def Wd.tok (S : Wd) (p : Addr) (o : HO) : Wd := ⟨S.i ++ [p], S.F, upd S.H p o⟩
theorem Stp.tok {K : PySem.W.Frag} {S : Wd} {m : Mu} (sa : Sta K S m) {p : Addr} {o : HO} (h : S.H p = none) : Stp S (S.tok p o) := by
  refine ⟨List.prefix_append _ _, Ext.refl _, fun a u _ h1 h2 h3 => ?_, fun a z => upd_none z⟩
  have ne : a ≠ p := ne_of_none h1 h
  exact ⟨by show upd S.H p o a = _; rw [upd_ne ne]; exact h1, h2, by
    intro z
    rcases List.mem_append.mp z with z | z
    · exact h3 z
    · exact ne (List.mem_singleton.mp z)⟩
theorem Sta.tok {K : PySem.W.Frag} {S : Wd} {m : Mu} (sa : Sta K S m) {p : Addr} {o : HO} (h : S.H p = none) {q : Mo} (hq : MoOk K (S.tok p o) p q) : Sta K (S.tok p o) (m ++ [q]) := by
  have st := Stp.tok sa (o := o) h
  have f := sa.fresh h
  refine ⟨?_, by show (S.i ++ [p]).length = _; simp [sa.len], fun a u e => ?_, fun a ha => ?_, fun a ha => ?_, fun n a u h1 h2 => ?_, fun q hq => ?tb⟩
  case tb =>
    obtain ⟨ps, t1, t2, t3, t4, t5⟩ := sa.tb q hq
    have ne : q.1 ≠ p := ne_of_none t1 h
    exact ⟨ps, by show upd S.H p o q.1 = _; rw [upd_ne ne]; exact t1, t2, by show q.1 ∉ S.i ++ [p]; simp [t3, ne], t4, t5⟩
  · show (S.i ++ [p]).Nodup
    refine List.nodup_append.mpr ⟨sa.nd, by simp, fun a ha b hb => ?_⟩
    have : b = p := List.mem_singleton.mp hb
    subst this
    exact fun z => f.2 (z ▸ ha)
  · have ne : a ≠ p := fun z => by
      have e : S.F a = some u := e
      rw [z, f.1] at e; cases e
    show upd S.H p o a = some u
    rw [upd_ne ne]; exact sa.sub a u e
  · rcases List.mem_append.mp (show a ∈ S.i ++ [p] from ha) with z | z
    · exact sa.dis a z
    · have : a = p := List.mem_singleton.mp z
      subst this; exact f.1
  · show ∃ u, upd S.H p o a = some u
    by_cases hp : a = p
    · subst hp; exact ⟨o, upd_same⟩
    · rcases List.mem_append.mp (show a ∈ S.i ++ [p] from ha) with z | z
      · rw [upd_ne hp]; exact sa.tr a z
      · exact absurd (List.mem_singleton.mp z) hp
  · have h1 : (S.i ++ [p])[n]? = some a := h1
    by_cases hn : n < S.i.length
    · rw [List.getElem?_append_left hn] at h1
      rw [List.getElem?_append_left (by rw [← sa.len]; exact hn)] at h2
      have ne : a ≠ p := fun z => f.2 (z ▸ List.mem_of_getElem? h1)
      exact (sa.ok n a u h1 h2).stp st (upd_ne ne)
    · have hn' : n = S.i.length := by
        have := (List.getElem?_eq_some_iff.mp h1).1
        simp at this; omega
      subst hn'
      rw [List.getElem?_append_right (Nat.le_refl _), Nat.sub_self] at h1
      rw [sa.len, List.getElem?_append_right (Nat.le_refl _), Nat.sub_self] at h2
      simp at h1 h2
      subst h1; subst h2
      exact hq
def Wd.put (S : Wd) (p : Addr) (o : HO) : Wd := ⟨S.i, S.F, upd S.H p o⟩
theorem Sta.put {K : PySem.W.Frag} {S : Wd} {m : Mu} (sa : Sta K S m) {p : Addr} {o : HO} {n : Nat} (h : S.i[n]? = some p) {q : Mo} (hq : MoOk K (S.put p o) p q) : Stp S (S.put p o) ∧ Sta K (S.put p o) (m.set n q) := by
  have hp := List.mem_of_getElem? h
  have st : Stp S (S.put p o) := ⟨List.prefix_refl _, Ext.refl _, fun a u _ h1 h2 h3 => ⟨by
    have ne : a ≠ p := fun z => h3 (z ▸ hp)
    show upd S.H p o a = _; rw [upd_ne ne]; exact h1, h2, h3⟩, fun a z => upd_none z⟩
  refine ⟨st, sa.nd, by show S.i.length = _; simp [sa.len], fun a u e => ?_, sa.dis, fun a ha => ?_, fun k a u h1 h2 => ?_, fun q hq => ?tb⟩
  case tb =>
    obtain ⟨ps, t1, t2, t3, t4, t5⟩ := sa.tb q hq
    have ne : q.1 ≠ p := fun z => t3 (z ▸ hp)
    exact ⟨ps, by show upd S.H p o q.1 = _; rw [upd_ne ne]; exact t1, t2, t3, t4, t5⟩
  · have ne : a ≠ p := fun z => by
      have e : S.F a = some u := e
      rw [z, sa.dis p hp] at e; cases e
    show upd S.H p o a = some u
    rw [upd_ne ne]; exact sa.sub a u e
  · show ∃ u, upd S.H p o a = some u
    by_cases hp : a = p
    · subst hp; exact ⟨o, upd_same⟩
    · rw [upd_ne hp]; exact sa.tr a ha
  · have h1 : S.i[k]? = some a := h1
    by_cases hk : k = n
    · subst hk
      rw [h] at h1; cases h1
      have hl : k < m.length := by rw [← sa.len]; exact (List.getElem?_eq_some_iff.mp h).1
      rw [List.getElem?_set_self hl] at h2; cases h2
      exact hq
    · rw [List.getElem?_set_ne (Ne.symm hk)] at h2
      have ne : a ≠ p := fun z => by
        subst z
        obtain ⟨l1, e1⟩ := List.getElem?_eq_some_iff.mp h1
        obtain ⟨l2, e2⟩ := List.getElem?_eq_some_iff.mp h
        exact hk ((List.getElem_inj sa.nd).mp (e1.trans e2.symm))
      exact (sa.ok k a u h1 h2).stp st (upd_ne ne)
theorem Sta.hid {K : PySem.W.Frag} {S : Wd} {m : Mu} (sa : Sta K S m) {p : Addr} {o : HO} (h1 : S.F p = none) (h2 : p ∉ S.i) (h3 : ∀ ps, S.H p ≠ some (.tbl ps)) : Sta K (S.put p o) m := by
  refine ⟨sa.nd, sa.len, fun a u e => ?_, sa.dis, fun a ha => ?_, fun k a u e1 e2 => ?_, fun q hq => ?tb⟩
  case tb =>
    obtain ⟨ps, t1, t2, t3, t4, t5⟩ := sa.tb q hq
    have ne : q.1 ≠ p := fun z => h3 ps (z ▸ t1)
    exact ⟨ps, by show upd S.H p o q.1 = _; rw [upd_ne ne]; exact t1, t2, t3, t4, t5⟩
  · have ne : a ≠ p := fun z => by
      have e : S.F a = some u := e
      rw [z, h1] at e; cases e
    show upd S.H p o a = some u
    rw [upd_ne ne]; exact sa.sub a u e
  · have ne : a ≠ p := fun z => h2 (z ▸ ha)
    show ∃ u, upd S.H p o a = some u
    rw [upd_ne ne]; exact sa.tr a ha
  · have ne : a ≠ p := fun z => h2 (z ▸ List.mem_of_getElem? e1)
    have q := sa.ok k a u e1 e2
    cases u with
    | lst ds => obtain ⟨xs, q1, q2⟩ := q; exact ⟨xs, by show upd S.H p o a = _; rw [upd_ne ne]; exact q1, q2⟩
    | ins C fs => obtain ⟨dx, vs, q1, q2⟩ := q; exact ⟨dx, vs, by show upd S.H p o a = _; rw [upd_ne ne]; exact q1, q2⟩
    | exo C d =>
      cases d with
      | none => exact (show upd S.H p o a = _ from (upd_ne ne).trans q)
      | some k => obtain ⟨dx, q1, q2⟩ := q; exact ⟨dx, q1, (show upd S.H p o a = _ from (upd_ne ne).trans q2)⟩
    | exd fs => obtain ⟨vs, q1, q2⟩ := q; exact ⟨vs, by show upd S.H p o a = _; rw [upd_ne ne]; exact q1, q2⟩
    | dik kvs => obtain ⟨vs, q1, q0, q2⟩ := q; exact ⟨vs, by show upd S.H p o a = _; rw [upd_ne ne]; exact q1, q0, q2⟩
    | dit kvs => obtain ⟨vs, q1, q0, q2⟩ := q; exact ⟨vs, by show upd S.H p o a = _; rw [upd_ne ne]; exact q1, q0, q2⟩
def Wd.keep (S : Wd) (p : Addr) (o : HO) : Wd := ⟨S.i, upd S.F p o, S.H⟩
theorem Sta.keep {K : PySem.W.Frag} {S : Wd} {m : Mu} (sa : Sta K S m) {p : Addr} {o : HO} (h0 : S.H p = some o) (h1 : S.F p = none) (h2 : p ∉ S.i) (h3 : ∀ ps, o ≠ .tbl ps) : Sta K (S.keep p o) m := by
  have ex : Ext S.F (upd S.F p o) := Ext.updNew h1
  refine ⟨sa.nd, sa.len, fun a u e => ?_, fun a ha => ?_, sa.tr, fun k a u e1 e2 => ?_, fun q hq => ?tb⟩
  case tb =>
    obtain ⟨ps, t1, t2, t3, t4, t5⟩ := sa.tb q hq
    have ne : q.1 ≠ p := fun z => h3 ps (Option.some.inj (h0.symm.trans (z ▸ t1)))
    exact ⟨ps, t1, by show upd S.F p o q.1 = _; rw [upd_ne ne]; exact t2, t3, t4, fun pos cv hc => let ⟨c, c1, c2⟩ := t5 pos cv hc; ⟨c, c1, ex _ _ c2⟩⟩
  · have e : upd S.F p o a = some u := e
    by_cases hp : a = p
    · subst hp; rw [upd_same] at e; cases e; exact h0
    · rw [upd_ne hp] at e; exact sa.sub a u e
  · have ne : a ≠ p := fun z => h2 (z ▸ ha)
    show upd S.F p o a = none
    rw [upd_ne ne]; exact sa.dis a ha
  · have q := sa.ok k a u e1 e2
    cases u with
    | lst ds => obtain ⟨xs, q1, q2⟩ := q; exact ⟨xs, q1, q2.mono (List.prefix_refl _) ex⟩
    | ins C fs => obtain ⟨dx, vs, q1, q2⟩ := q; exact ⟨dx, vs, q1, q2.mono (List.prefix_refl _) ex⟩
    | exo C d =>
      cases d with
      | none => exact q
      | some k => exact q
    | exd fs => obtain ⟨vs, q1, q2⟩ := q; exact ⟨vs, q1, q2.mono (List.prefix_refl _) ex⟩
    | dik kvs => obtain ⟨vs, q1, q0, q2⟩ := q; exact ⟨vs, q1, q0, q2.mono (List.prefix_refl _) ex⟩
    | dit kvs => obtain ⟨vs, q1, q0, q2⟩ := q; exact ⟨vs, q1, q0, q2.mono (List.prefix_refl _) ex⟩
inductive Res (α : Type) where
  | stuck
  | ok (a : α) (m : Mu)
  | exc (C : Addr) (fs : List (Str × D)) (m : Mu)
def Res.bind {α β : Type} (r : Res α) (f : α → Mu → Res β) : Res β := match r with
  | .stuck => .stuck
  | .ok a m => f a m
  | .exc C fs m => .exc C fs m
@[simp] theorem Res.bind_ok {α β : Type} (a : α) (m : Mu) (f : α → Mu → Res β) : (Res.ok a m).bind f = f a m := rfl
@[simp] theorem Res.bind_stuck {α β : Type} (f : α → Mu → Res β) : (Res.stuck : Res α).bind f = .stuck := rfl
@[simp] theorem Res.bind_exc {α β : Type} (C : Addr) (fs : List (Str × D)) (m : Mu) (f : α → Mu → Res β) : (Res.exc C fs m : Res α).bind f = .exc C fs m := rfl
section
variable {α β γ δ : Type} {K : PySem.W.Frag} {S T : Wd}
def Post (R : Wd → α → β → Prop) (K : PySem.W.Frag) (S : Wd) (r : Res α) (Q : β → Hp → Prop) (W : XK) : Prop := match r with
  | .stuck => False
  | .ok a m => ∀ v T, Stp S T → Sta K T m → R T a v → Q v T.H
  | .exc C fs m => ∀ dd vs T, Stp S T → S.H dd = none → Sta K T m → T.H dd = some (.xd vs) → RepF K T.i T.F fs vs → W (.ref C) (some dd) T.H
variable {R : Wd → α → β → Prop} {R' : Wd → γ → δ → Prop}
theorem Post.step {r : Res α} {Q : β → Hp → Prop} {W : XK} (s : Stp S T) (h : Post R K S r Q W) : Post R K T r Q W := by
  cases r with
  | stuck => exact h
  | ok a m => exact fun v U s1 => h v U (s.trans s1)
  | exc C fs m => exact fun dd vs U s1 hn => h dd vs U (s.trans s1) (s.old dd hn)
theorem Post.imp {r : Res α} {Q Q' : β → Hp → Prop} {W : XK} (h : Post R K S r Q W) (f : ∀ v H, Q v H → Q' v H) : Post R K S r Q' W := by
  cases r with
  | stuck => exact h
  | ok a m => exact fun v U s1 s2 s3 => f _ _ (h v U s1 s2 s3)
  | exc C fs m => exact h
theorem Post.bindI {r : Res α} {f : α → Mu → Res γ} {Q : δ → Hp → Prop} {Q' : β → Hp → Prop} {W : XK} (h : Post R' K S (r.bind f) Q W)
    (g : ∀ a m v T, Stp S T → Sta K T m → R T a v → Post R' K T (f a m) Q W → Q' v T.H) : Post R K S r Q' W := by
  cases r with
  | stuck => exact h
  | ok a m => exact fun v U s1 s2 s3 => g a m v U s1 s2 s3 (Post.step (r := f a m) s1 h)
  | exc C fs m => exact h
theorem Post.ok {a : α} {m : Mu} {Q : β → Hp → Prop} {W : XK} {v : β} (h : Post R K S (.ok a m) Q W) (s : Stp S T) (sa : Sta K T m) (r : R T a v) : Q v T.H := h v T s sa r
end
abbrev RD (K : PySem.W.Frag) : Wd → D → V → Prop := fun S d v => Rep K S.i S.F d v
abbrev RL (K : PySem.W.Frag) : Wd → List D → List V → Prop := fun S d v => Reps K S.i S.F d v
abbrev RB : Wd → Bool → Bool → Prop := fun _ a b => a = b
abbrev PostD (K : PySem.W.Frag) (S : Wd) (r : Res D) (Q : VK) (W : XK) : Prop := Post (RD K) K S r Q W
abbrev PostL (K : PySem.W.Frag) (S : Wd) (r : Res (List D)) (Q : List V → Hp → Prop) (W : XK) : Prop := Post (RL K) K S r Q W
abbrev PostB (K : PySem.W.Frag) (S : Wd) (r : Res Bool) (Q : Bool → Hp → Prop) (W : XK) : Prop := Post RB K S r Q W
def RelE (K : PySem.W.Frag) (S : Wd) (e : En) (σ : L2.St) : Prop := e.length = σ.length ∧ ∀ (i : Nat) d, e[i]? = some (some d) → ∃ v, σ[i]? = some (some v) ∧ Rep K S.i S.F d v
theorem RelE.stp {K : PySem.W.Frag} {S T : Wd} {e : En} {σ : L2.St} (r : RelE K S e σ) (s : Stp S T) : RelE K T e σ := ⟨r.1, fun i d h => let ⟨v, h1, h2⟩ := r.2 i d h; ⟨v, h1, h2.stp s⟩⟩
theorem RelE.set {K : PySem.W.Frag} {S : Wd} {e : En} {σ : L2.St} {d : D} {v : V} (r : RelE K S e σ) (i : Nat) (h : Rep K S.i S.F d v) : RelE K S (e.set i (some d)) (σ.set i (some v)) := by
  refine ⟨by simp [r.1], fun j d' e1 => ?_⟩
  by_cases hj : i = j
  · subst hj
    by_cases hl : i < e.length
    · rw [List.getElem?_set_self hl] at e1
      cases e1
      exact ⟨v, List.getElem?_set_self (by rw [← r.1]; exact hl), h⟩
    · rw [List.getElem?_eq_none (by simpa using hl)] at e1; cases e1
  · rw [List.getElem?_set_ne hj] at e1 ⊢
    exact r.2 j d' e1
def wipeE (e : En) : List Nat → En
  | [] => e
  | v :: vs => (wipeE e vs).set v none
theorem RelE.unset {K : PySem.W.Frag} {S : Wd} {e : En} {σ : L2.St} (r : RelE K S e σ) (i : Nat) : RelE K S (e.set i none) (σ.set i none) := by
  refine ⟨by simp [r.1], fun j d' e1 => ?_⟩
  by_cases hj : i = j
  · subst hj
    by_cases hl : i < e.length
    · rw [List.getElem?_set_self hl] at e1; cases e1
    · rw [List.getElem?_eq_none (by simpa using hl)] at e1; cases e1
  · rw [List.getElem?_set_ne hj] at e1 ⊢
    exact r.2 j d' e1
theorem RelE.wipe {K : PySem.W.Frag} {S : Wd} {e : En} {σ : L2.St} (r : RelE K S e σ) : ∀ vs : List Nat, RelE K S (wipeE e vs) (wipe σ vs)
  | [] => r
  | v :: vs => (RelE.wipe r vs).unset v
inductive RS where
  | stuck
  | nx (e : En) (m : Mu)
  | rt (d : D) (m : Mu)
  | bk (e : En) (m : Mu)
  | ct (e : En) (m : Mu)
  | exc (C : Addr) (fs : List (Str × D)) (e : En) (m : Mu)
def PostS (K : PySem.W.Frag) (S : Wd) (r : RS) (N : Ends) (W : WX) : Prop := match r with
  | .stuck => False
  | .nx e m => ∀ σ T, Stp S T → Sta K T m → RelE K T e σ → N.nx σ T.H
  | .rt d m => ∀ v T, Stp S T → Sta K T m → Rep K T.i T.F d v → N.rt v T.H
  | .bk e m => ∀ σ T, Stp S T → Sta K T m → RelE K T e σ → N.bk σ T.H
  | .ct e m => ∀ σ T, Stp S T → Sta K T m → RelE K T e σ → N.ct σ T.H
  | .exc C fs e m => ∀ dd vs σ T, Stp S T → S.H dd = none → Sta K T m → RelE K T e σ → T.H dd = some (.xd vs) → RepF K T.i T.F fs vs → W (.ref C) (some dd) σ T.H
theorem PostS.step {K : PySem.W.Frag} {S T : Wd} {r : RS} {N : Ends} {W : WX} (s : Stp S T) (h : PostS K S r N W) : PostS K T r N W := by
  cases r with
  | stuck => exact h
  | nx e m => exact fun σ U s1 => h σ U (s.trans s1)
  | rt d m => exact fun v U s1 => h v U (s.trans s1)
  | bk e m => exact fun σ U s1 => h σ U (s.trans s1)
  | ct e m => exact fun σ U s1 => h σ U (s.trans s1)
  | exc C fs e m => exact fun dd vs σ U s1 hn => h dd vs σ U (s.trans s1) (s.old dd hn)
def Fly (X : Cx) (c : Value) (d : Option Addr) (σ : L2.St) (H : Hp) : Prop := Takes X (fun c' d' σ' H' => c' = c ∧ d' = d ∧ σ' = σ ∧ H' = H)
theorem Fly.of {X : Cx} {W : WX} (t : Takes X W) {c : Value} {d : Option Addr} {σ : L2.St} {H : Hp} (h : W c d σ H) : Fly X c d σ H := t.imp fun _ _ _ _ ⟨e1, e2, e3, e4⟩ => by subst e1 e2 e3 e4; exact h
def WE (X : Cx) (e : Expr) : TE := fun σ H Q => ∀ (pins : List (Addr × Obj)) (s : Shared), Inv X pins σ H s → wpAny (model X.prog X.w) X.A (eval e X.env) (EP X pins σ Q) X.xe s
def WT (X : Cx) (e : Expr) : TT := fun σ H Q => ∀ (pins : List (Addr × Obj)) (s : Shared), Inv X pins σ H s → wpAny (model X.prog X.w) X.A (isTrue e X.env (eval e X.env)) (TP X pins σ Q) X.xe s
def WW (X : Cx) (e : Expr) : TT := fun σ H Q => ∀ (whole : Sem Value) (pins : List (Addr × Obj)) (s : Shared), Inv X pins σ H s → wpAny (model X.prog X.w) X.A (isTrue e X.env whole) (TP X pins σ Q) X.xe s
def WA (X : Cx) (es : List Expr) : TA := fun σ H Q => ∀ (pos : Pos) (pins : List (Addr × Obj)) (s : Shared), Inv X pins σ H s → wpAny (model X.prog X.w) X.A (spliced (backTo pos (starEach es X.env))) (AP X pins σ Q) X.xe s
def WS (X : Cx) (st : Stmt) : TS := fun N σ H => ∀ (pins : List (Addr × Obj)) (s : Shared), Inv X pins σ H s → wpAny (model X.prog X.w) X.A (exec st X.env) (SP X pins N) X.xe s
def WSs (X : Cx) (st : List Stmt) : TS := fun N σ H => ∀ (pins : List (Addr × Obj)) (s : Shared), Inv X pins σ H s → wpAny (model X.prog X.w) X.A (execs st X.env) (SP X pins N) X.xe s
theorem mxE (X : Cx) (e : Expr) : PE X e (WE X e) := ⟨fun pins s σ H Q I h => h pins s I⟩
theorem mxT (X : Cx) (e : Expr) : PT X e (WT X e) := ⟨fun pins s σ H Q I h => h pins s I⟩
theorem mxW (X : Cx) (e : Expr) : PW X e (WW X e) := ⟨fun wh pins s σ H Q I h => h wh pins s I⟩
theorem mxA (X : Cx) (e : List Expr) : PA X e (WA X e) := ⟨fun pos pins s σ H Q I h => h pos pins s I⟩
theorem mxS (X : Cx) (e : Stmt) : PS X e (WS X e) := ⟨fun pins s σ H Q I h => h pins s I⟩
theorem mxSs (X : Cx) (e : List Stmt) : PSs X e (WSs X e) := ⟨fun pins s σ H Q I h => h pins s I⟩
abbrev DE := En → Mu → Res D
abbrev DT := En → Mu → Res Bool
abbrev DA := En → Mu → Res (List D)
abbrev DS := En → Mu → RS
abbrev DFn := List D → Mu → Res D
def PDE (X : Cx) (e : Expr) (t : DE) : Prop := ∀ S r m σ Q, Sta X.K S m → RelE X.K S r σ → PostD X.K S (t r m) Q (fun c d H => Fly X c d σ H) → WE X e σ S.H Q
def PDT (X : Cx) (e : Expr) (t : DT) : Prop := ∀ S r m σ Q, Sta X.K S m → RelE X.K S r σ → PostB X.K S (t r m) Q (fun c d H => Fly X c d σ H) → WT X e σ S.H Q
def PDW (X : Cx) (e : Expr) (t : DT) : Prop := ∀ S r m σ Q, Sta X.K S m → RelE X.K S r σ → PostB X.K S (t r m) Q (fun c d H => Fly X c d σ H) → WW X e σ S.H Q
def PDA (X : Cx) (e : List Expr) (t : DA) : Prop := ∀ S r m σ Q, Sta X.K S m → RelE X.K S r σ → PostL X.K S (t r m) Q (fun c d H => Fly X c d σ H) → WA X e σ S.H Q
def PDS (X : Cx) (e : Stmt) (t : DS) : Prop := ∀ S r m σ N, Sta X.K S m → RelE X.K S r σ → PostS X.K S (t r m) N (Fly X) → WS X e N σ S.H
def PDSs (X : Cx) (e : List Stmt) (t : DS) : Prop := ∀ S r m σ N, Sta X.K S m → RelE X.K S r σ → PostS X.K S (t r m) N (Fly X) → WSs X e N σ S.H
theorem pd_of {X : Cx} {e : Expr} {u : TE} {t : DE} (h : PE X e u) (k : ∀ S r m σ Q, Sta X.K S m → RelE X.K S r σ → PostD X.K S (t r m) Q (fun c d H => Fly X c d σ H) → u σ S.H Q) : PDE X e t :=
  fun S r m σ Q sa re p pins s I => h.run pins s σ S.H Q I (k S r m σ Q sa re p)
theorem pt_of {X : Cx} {e : Expr} {u : TT} {t : DT} (h : PT X e u) (k : ∀ S r m σ Q, Sta X.K S m → RelE X.K S r σ → PostB X.K S (t r m) Q (fun c d H => Fly X c d σ H) → u σ S.H Q) : PDT X e t :=
  fun S r m σ Q sa re p pins s I => h.run pins s σ S.H Q I (k S r m σ Q sa re p)
theorem pa_of {X : Cx} {e : List Expr} {u : TA} {t : DA} (h : PA X e u) (k : ∀ S r m σ Q, Sta X.K S m → RelE X.K S r σ → PostL X.K S (t r m) Q (fun c d H => Fly X c d σ H) → u σ S.H Q) : PDA X e t :=
  fun S r m σ Q sa re p pos pins s I => h.run pos pins s σ S.H Q I (k S r m σ Q sa re p)
theorem ps_of {X : Cx} {e : Stmt} {u : TS} {t : DS} (h : PS X e u) (k : ∀ S r m σ N, Sta X.K S m → RelE X.K S r σ → PostS X.K S (t r m) N (Fly X) → u N σ S.H) : PDS X e t :=
  fun S r m σ N sa re p pins s I => h.run pins s σ S.H N I (k S r m σ N sa re p)
end DL

namespace DL
open PySem PySem.Spec PyProof.Rows L2
variable [LamTab]
def seqL (m : Mu) : D → Option (List D)
  | .lst ds => some ds
  | .loc n => match m[n]? with
    | some (.lst ds) => some ds
    | _ => none
  | _ => none
def seqT : D → Option (List D)
  | .tup ds => some ds
  | _ => none
section
variable {K : PySem.W.Frag} {S T : Wd} {m : Mu}
theorem seqL_ok {d : D} {v : V} {ds : List D} (sa : Sta K S m) (r : Rep K S.i S.F d v) (h : seqL m d = some ds) : ∃ a xs, v = .ref a ∧ SqL K S.H a xs ∧ Reps K S.i S.F ds xs := by
  cases r with
  | lst h1 h2 => cases h; exact ⟨_, _, rfl, SqL.ext' h1 sa.sub, h2⟩
  | @loc n a h1 =>
    unfold seqL at h
    dsimp only at h
    split at h
    · rename_i ds' e
      cases h
      obtain ⟨xs, q1, q2⟩ := sa.ok n a _ h1 e
      exact ⟨a, xs, rfl, .inl (.inl q1), q2⟩
    · cases h
  | _ => cases h
theorem seqT_ok {d : D} {v : V} {ds : List D} (sa : Sta K S m) (r : Rep K S.i S.F d v) (h : seqT d = some ds) : ∃ a xs, v = .ref a ∧ SqT K S.H a xs ∧ Reps K S.i S.F ds xs := by
  cases r with
  | tup h1 h2 => cases h; exact ⟨_, _, rfl, SqT.ext' h1 sa.sub, h2⟩
  | _ => cases h
end
def dTru (m : Mu) : D → Option Bool
  | .non => some false
  | .bl b => some b
  | .int i => some (i != 0)
  | .str x => if x.length ≤ sizeLine then some ((x.length : Int) != 0) else none
  | .tup ds => some (!ds.isEmpty)
  | .lst ds => some (!ds.isEmpty)
  | .loc n => match m[n]? with
    | some (.lst ds) => some (!ds.isEmpty)
    | _ => none
  | _ => none
theorem isEmpty_reps {K : PySem.W.Frag} {i : List Addr} {F : Hp} {ds : List D} {xs : List V} (r : Reps K i F ds xs) : ds.isEmpty = xs.isEmpty := by cases r <;> rfl
theorem dTru_ok {K : PySem.W.Frag} {S : Wd} {m : Mu} {d : D} {v : V} {b : Bool} (sa : Sta K S m) (r : Rep K S.i S.F d v) (h : dTru m d = some b) : TruV K v S.H b := by
  cases r with
  | non => cases h; rfl
  | bl b => cases h; rfl
  | int i => cases h; rfl
  | str x =>
    unfold dTru at h
    dsimp only at h
    split at h
    · rename_i e; cases h; exact ⟨e, rfl⟩
    · cases h
  | tup h1 h2 => cases h; exact .inr (.inl ⟨_, SqT.ext' h1 sa.sub, by rw [isEmpty_reps h2]⟩)
  | lst h1 h2 => cases h; exact .inl ⟨_, SqL.ext' h1 sa.sub, by rw [isEmpty_reps h2]⟩
  | @loc n a h1 =>
    unfold dTru at h
    dsimp only at h
    split at h
    · rename_i ds' e
      cases h
      obtain ⟨xs, q1, q2⟩ := sa.ok n a _ h1 e
      exact .inl ⟨xs, .inl (.inl q1), by rw [isEmpty_reps q2]⟩
    · cases h
  | _ => cases h
def dVar (i : Nat) : DE := fun e m => match e[i]? with
  | some (some d) => .ok d m
  | _ => .stuck
def dC (d : D) : DE := fun _ m => .ok d m
section
variable {X : Cx}
theorem pd_var (i : Nat) {x : Str} {pos : Pos} (hN : X.N[i]? = some x := by rfl) (hv : Vis X.env.scope x := by first | exact Or.inl rfl | exact Or.inr (Or.inl rfl) | exact Or.inr (Or.inr rfl)) (hd : (x == ("__debug__" : Str)) = false := by decide)
    (hcd : (x == ("__classdict__" : Str)) = false := by decide) : PDE X (.Name x pos) (dVar i) := by
  refine pd_of (pe_var (i := i) hN hv hd hcd) fun S r m σ Q sa re p => ?_
  unfold dVar at p
  split at p
  · rename_i d e
    obtain ⟨v, h1, h2⟩ := re.2 i d e
    exact ⟨v, h1, Post.ok p (Stp.refl S) sa h2⟩
  · exact p.elim
theorem pd_int {i j pos} : PDE X (.Constant (.int i) j pos) (dC (.int i)) := pd_of pe_int fun S r m σ Q sa re p => Post.ok p (Stp.refl S) sa (.int i)
theorem pd_bl {i j pos} : PDE X (.Constant (.bool i) j pos) (dC (.bl i)) := pd_of pe_bl fun S r m σ Q sa re p => Post.ok p (Stp.refl S) sa (.bl i)
theorem pd_non {j pos} : PDE X (.Constant .none j pos) (dC .non) := pd_of pe_non fun S r m σ Q sa re p => Post.ok p (Stp.refl S) sa .non
theorem pd_str {i j pos} : PDE X (.Constant (.str i) j pos) (dC (.str i)) := pd_of pe_str fun S r m σ Q sa re p => Post.ok p (Stp.refl S) sa (.str i)
structure RepA (K : PySem.W.Frag) (d : D) (v : V) : Prop where
  to : ∀ (i : List Addr) (F : Hp), Rep K i F d v
theorem RepA.int {K : PySem.W.Frag} (i : Int) : RepA K (.int i) (.int i) := ⟨fun _ _ => .int i⟩
theorem RepA.str {K : PySem.W.Frag} (i : Str) : RepA K (.str i) (.str i) := ⟨fun _ _ => .str i⟩
theorem RepA.val {K : PySem.W.Frag} (i : V) : RepA K (.val i) i := ⟨fun _ _ => .val i⟩
theorem pd_glob {x : Str} {v : V} {d : D} {u : Value} {pos : Pos} (ra : RepA X.K d v) (hm : X.mg x = some u) (r : RelV v u) (hg : Gl X x := by rfl) (hd : (x == ("__debug__" : Str)) = false := by decide) : PDE X (.Name x pos) (dC d) :=
  pd_of (pe_glob hg hm r hd) fun S r m σ Q sa re p => Post.ok p (Stp.refl S) sa (ra.to _ _)
theorem pd_bltn {x : Str} {v : V} {u : Value} {pos : Pos} (hm : X.mg x = none) (hv : bootBuiltins x = some u) (r : RelV v u) (hg : Gl X x := by rfl) (hn : x ≠ "__name__" := by decide) (hd : (x == ("__debug__" : Str)) = false := by decide) : PDE X (.Name x pos) (dC (.val v)) :=
  pd_of (pe_bltn hg hm hv r hn hd) fun S r m σ Q sa re p => Post.ok p (Stp.refl S) sa (.val v)
abbrev D2 := D → D → Mu → Res D
def dBin (f : D2) (a b : DE) : DE := fun e m => (a e m).bind fun x m1 => (b e m1).bind fun y m2 => f x y m2
def OD (X : Cx) (f : Value → Value → Sem Value) (g : D2) : Prop :=
  ∀ (pins : List (Addr × Obj)) (s : Shared) (σ : L2.St) (S : Wd) (m : Mu) (x y : D) (vx vy : V) (u w : Value) (Q : VK), Sta X.K S m → Rep X.K S.i S.F x vx → Rep X.K S.i S.F y vy → Inv X pins σ S.H s → RelV vx u → RelV vy w →
    PostD X.K S (g x y m) Q (fun c d H => Fly X c d σ H) → wpAny (model X.prog X.w) X.A (f u w) (EP X pins σ Q) X.xe s
theorem od_of {f : Value → Value → Sem Value} {g : D2} {r : R2} (ho : OpR X f r)
    (k : ∀ (S : Wd) (m : Mu) (x y : D) (vx vy : V) (Q : VK) (W : XK), Sta X.K S m → Rep X.K S.i S.F x vx → Rep X.K S.i S.F y vy → PostD X.K S (g x y m) Q W → r vx vy S.H Q) : OD X f g :=
  fun pins s σ S m x y vx vy u w Q sa rx ry I hu hw p => ho pins s σ S.H vx vy u w Q I hu hw (k S m x y vx vy Q _ sa rx ry p)
def orD (f g : D2) : D2 := fun x y m => match f x y m with
  | .stuck => g x y m
  | r => r
theorem od_or {f : Value → Value → Sem Value} {g h : D2} (a : OD X f g) (b : OD X f h) : OD X f (orD g h) := by
  intro pins s σ S m x y vx vy u w Q sa rx ry I hu hw p
  unfold orD at p
  split at p
  · exact b pins s σ S m x y vx vy u w Q sa rx ry I hu hw p
  · exact a pins s σ S m x y vx vy u w Q sa rx ry I hu hw p
variable {a b c : Expr} {ta tb tc : DE} {pos : Pos}
theorem pd_two {f : Value → Value → Sem Value} {g : D2} (ha : PDE X a ta) (hb : PDE X b tb) (ho : OD X f g) {S : Wd} {r : En} {m : Mu} {σ : L2.St} {Q : VK} (sa : Sta X.K S m) (re : RelE X.K S r σ)
    (p : PostD X.K S (dBin g ta tb r m) Q (fun c d H => Fly X c d σ H)) {pins : List (Addr × Obj)} {s : Shared} (I : Inv X pins σ S.H s) :
    wpAny (model X.prog X.w) X.A (eval a X.env) (fun v s₁ => wpAny (model X.prog X.w) X.A (eval b X.env) (fun u s₂ => wpAny (model X.prog X.w) X.A (f v u) (EP X pins σ Q) X.xe s₂) X.xe s₁) X.xe s := by
  refine thn (ha S r m σ _ sa re (Post.bindI p (Q' := fun v H => ∃ d m1 T, H = T.H ∧ Stp S T ∧ Sta X.K T m1 ∧ Rep X.K T.i T.F d v ∧ PostD X.K T ((tb r m1).bind fun y m2 => g d y m2) Q (fun c d H => Fly X c d σ H)) fun d m1 v T st sa1 r1 q => ⟨d, m1, T, rfl, st, sa1, r1, q⟩) pins s I) ?_
  rintro v s1 ⟨x, H1, I1, r1, d, m1, T, rfl, st, sa1, rd, q⟩
  refine thn (hb T r m1 σ _ sa1 (re.stp st) (Post.bindI q (Q' := fun w H => ∃ d' m2 U, H = U.H ∧ Stp T U ∧ Sta X.K U m2 ∧ Rep X.K U.i U.F d' w ∧ PostD X.K U (g d d' m2) Q (fun c d H => Fly X c d σ H)) fun d' m2 v U st sa2 r2 q => ⟨d', m2, U, rfl, st, sa2, r2, q⟩) pins s1 I1) ?_
  rintro u s2 ⟨y, H2, I2, r2, d', m2, U, rfl, st2, sa2, rd2, q2⟩
  exact ho pins s2 σ U m2 d d' x y v u Q sa2 (rd.stp st2) rd2 I2 r1 r2 q2
theorem pd_op {op : Operator} {g : D2} (ho : OD X (binaryOp op) g) (ha : PDE X a ta) (hb : PDE X b tb) : PDE X (.BinOp a op b pos) (dBin g ta tb) :=
  fun S r m σ Q sa re p pins s I => wpAny_BinOp (pd_two ha hb ho sa re p I)
theorem pd_cmp {op : CmpOp} {g : D2} (ho : OD X (compareOp op) g) (ha : PDE X a ta) (hb : PDE X b tb) (hm : behindInMarks op b = false := by first | exact nomark _ | rfl) : PDE X (.Compare a [op] [b] pos) (dBin g ta tb) :=
  fun S r m σ Q sa re p pins s I => wpAny_Compare1 (pd_two ha hb ho sa re p I) hm
def dTst (t : DE) : DT := fun e m => (t e m).bind fun d m => match d with
  | .bl b => .ok b m
  | _ => .stuck
theorem EP.bool {pins : List (Addr × Obj)} {σ : L2.St} {S : Wd} {r : Res D} {Q : Bool → Hp → Prop} {W : XK} (p : PostB X.K S (r.bind fun d m => match d with | .bl b => Res.ok b m | _ => .stuck) Q W) :
    PostD X.K S r (fun v H => ∃ b, v = .bl b ∧ Q b H) W := by
  refine Post.bindI p fun d m v T st sa rd q => ?_
  cases rd with
  | bl b => exact ⟨b, rfl, Post.ok q (Stp.refl T) sa rfl⟩
  | _ => exact q.elim
theorem pdt_cmp {op : CmpOp} {g : D2} (ho : OD X (compareOp op) g) (ha : PDE X a ta) (hb : PDE X b tb) (hm : behindInMarks op b = false := by first | exact nomark _ | rfl) : PDT X (.Compare a [op] [b] pos) (dTst (dBin g ta tb)) := by
  intro S r m σ Q sa re p pins s I
  refine wpAny_isTrue_Compare1 (thn (pd_two ha hb ho sa re (EP.bool (pins := pins) (σ := σ) p) I) fun v s1 h1 => thn h1 fun u s2 h2 => thn h2 fun w s3 ⟨x, H1, I1, r1, b, e, q⟩ => ?_) hm
  subst e
  cases r1
  exact wpAny_truthy_bool ⟨H1, I1, q⟩
def dTr (t : DE) : DT := fun e m => (t e m).bind fun d m => match dTru m d with
  | some b => .ok b m
  | none => .stuck
theorem pdt_truth (ha : PDE X a ta) (he : ∀ whole, isTrue a X.env whole = (do let v ← whole; standAt a.pos; holding [v] (truthy v)) := by intro _; rfl) : PDT X a (dTr ta) := by
  refine pt_of (pt_truth (mxE X a) he) fun S r m σ Q sa re p => ?_
  refine ha S r m σ _ sa re (Post.bindI p fun d m v T st sa rd q => ?_)
  split at q
  · rename_i b e
    exact ⟨b, dTru_ok sa rd e, Post.ok q (Stp.refl T) sa rfl⟩
  · exact q.elim
theorem pdt_val (ha : PDE X a ta) (he : ∀ whole, isTrue a X.env whole = (do let v ← whole; standAt a.pos; holding [v] (truthy v)) := by intro _; rfl) : PDT X a (dTst ta) := by
  refine pt_of (pt_val (mxE X a) he) fun S r m σ Q sa re p => ?_
  exact ha S r m σ _ sa re (EP.bool (pins := []) (σ := σ) p)
def dNotT (t : DT) : DT := fun e m => (t e m).bind fun b m => .ok (!b) m
theorem pdt_not {t : DT} (ha : PDT X a t) : PDT X (.UnaryOp .Not a pos) (dNotT t) := by
  refine pt_of (pt_not (mxT X a)) fun S r m σ Q sa re p => ?_
  refine ha S r m σ _ sa re (Post.bindI p fun d m v T st sa rd q => ?_)
  have rd : d = v := rd
  subst rd
  exact Post.ok q (Stp.refl T) sa rfl
def dAndT (t u : DT) : DT := fun e m => (t e m).bind fun b m => if b then u e m else .ok false m
def dOrT (t u : DT) : DT := fun e m => (t e m).bind fun b m => if b then .ok true m else u e m
variable {rest : List Expr} {tt tu : DT}
theorem pdw_and1 (ha : PDT X a tt) : PDW X (.BoolOp .And [a] pos) tt := fun S r m σ Q sa re p wh pins s I => (pw_and1 (mxT X a)).run wh pins s σ S.H Q I (ha S r m σ Q sa re p)
theorem pdw_or1 (ha : PDT X a tt) : PDW X (.BoolOp .Or [a] pos) tt := fun S r m σ Q sa re p wh pins s I => (pw_or1 (mxT X a)).run wh pins s σ S.H Q I (ha S r m σ Q sa re p)
theorem pdw_and (ha : PDT X a tt) (hb : PDW X (.BoolOp .And (b :: rest) pos) tu) : PDW X (.BoolOp .And (a :: b :: rest) pos) (dAndT tt tu) := by
  intro S r m σ Q sa re p wh pins s I
  refine (pw_and (mxT X a) (mxW X _)).run wh pins s σ S.H Q I (ha S r m σ _ sa re (Post.bindI p fun d m v T st sa rd q => ?_))
  have rd : d = v := rd
  subst rd
  cases d with
  | true => exact iteT (hb T r m σ Q sa (re.stp st) q)
  | false => exact iteF (Post.ok q (Stp.refl T) sa rfl)
theorem pdw_or (ha : PDT X a tt) (hb : PDW X (.BoolOp .Or (b :: rest) pos) tu) : PDW X (.BoolOp .Or (a :: b :: rest) pos) (dOrT tt tu) := by
  intro S r m σ Q sa re p wh pins s I
  refine (pw_or (mxT X a) (mxW X _)).run wh pins s σ S.H Q I (ha S r m σ _ sa re (Post.bindI p fun d m v T st sa rd q => ?_))
  have rd : d = v := rd
  subst rd
  cases d with
  | true => exact iteT (Post.ok q (Stp.refl T) sa rfl)
  | false => exact iteF (hb T r m σ Q sa (re.stp st) q)
theorem PDW.pt {e : Expr} {t : DT} (h : PDW X e t) : PDT X e t := fun S r m σ Q sa re p pins s I => h S r m σ Q sa re p _ pins s I
def dAnd (t u : DE) : DE := fun e m => (t e m).bind fun d m => match d with
  | .bl true => u e m
  | .bl false => .ok (.bl false) m
  | _ => .stuck
def dOr (t u : DE) : DE := fun e m => (t e m).bind fun d m => match d with
  | .bl false => u e m
  | .bl true => .ok (.bl true) m
  | _ => .stuck
theorem pd_one {op} (h : PDE X a ta) : PDE X (.BoolOp op [a] pos) ta := pd_of (pe_one (mxE X a)) h
theorem pd_and (ha : PDE X a ta) (hb : PDE X (.BoolOp .And (b :: rest) pos) tb) : PDE X (.BoolOp .And (a :: b :: rest) pos) (dAnd ta tb) := by
  refine pd_of (pe_and (mxE X a) (mxE X _)) fun S r m σ Q sa re p => ?_
  refine ha S r m σ _ sa re (Post.bindI p fun d m v T st sa rd q => ?_)
  cases rd with
  | bl b =>
    refine ⟨b, rfl, ?_⟩
    cases b with
    | true => exact iteT (hb T r m σ Q sa (re.stp st) q)
    | false => exact iteF (Post.ok q (Stp.refl T) sa (.bl false))
  | _ => exact q.elim
theorem pd_or (ha : PDE X a ta) (hb : PDE X (.BoolOp .Or (b :: rest) pos) tb) : PDE X (.BoolOp .Or (a :: b :: rest) pos) (dOr ta tb) := by
  refine pd_of (pe_or (mxE X a) (mxE X _)) fun S r m σ Q sa re p => ?_
  refine ha S r m σ _ sa re (Post.bindI p fun d m v T st sa rd q => ?_)
  cases rd with
  | bl b =>
    refine ⟨b, rfl, ?_⟩
    cases b with
    | true => exact iteT (Post.ok q (Stp.refl T) sa (.bl true))
    | false => exact iteF (hb T r m σ Q sa (re.stp st) q)
  | _ => exact q.elim
def dNot (t : DE) : DE := fun e m => (t e m).bind fun d m => match d with
  | .bl b => .ok (.bl !b) m
  | _ => .stuck
theorem pd_not (ha : PDE X a ta) : PDE X (.UnaryOp .Not a pos) (dNot ta) := by
  refine pd_of (pe_not (mxE X a)) fun S r m σ Q sa re p => ?_
  refine ha S r m σ _ sa re (Post.bindI p fun d m v T st sa rd q => ?_)
  cases rd with
  | bl b => exact ⟨b, rfl, Post.ok q (Stp.refl T) sa (.bl _)⟩
  | _ => exact q.elim
def dIf (t : DT) (u w : DE) : DE := fun e m => (t e m).bind fun b m => if b then u e m else w e m
theorem pd_if {c : Expr} (hc : PDT X c tt) (ha : PDE X a ta) (hb : PDE X b tb) : PDE X (.IfExp c a b pos) (dIf tt ta tb) := by
  refine pd_of (pe_ifExp (mxT X c) (mxE X a) (mxE X b)) fun S r m σ Q sa re p => ?_
  refine hc S r m σ _ sa re (Post.bindI p fun d m v T st sa rd q => ?_)
  have rd : d = v := rd
  subst rd
  cases d with
  | true => exact iteT (ha T r m σ Q sa (re.stp st) q)
  | false => exact iteF (hb T r m σ Q sa (re.stp st) q)
theorem PDE.run {γ δ : Type} {R' : Wd → γ → δ → Prop} {a : Expr} {ta : DE} (ha : PDE X a ta) {S : Wd} {r : En} {m : Mu} {σ : L2.St} {f : D → Mu → Res γ} {Q : δ → Hp → Prop} (sa : Sta X.K S m) (re : RelE X.K S r σ)
    (p : Post R' X.K S ((ta r m).bind f) Q (fun c d H => Fly X c d σ H)) {pins : List (Addr × Obj)} {s : Shared} (I : Inv X pins σ S.H s) :
    wpAny (model X.prog X.w) X.A (eval a X.env) (fun v s1 => ∃ (x : V) (d : D) (m1 : Mu) (T : Wd), Stp S T ∧ Sta X.K T m1 ∧ Rep X.K T.i T.F d x ∧ RelV x v ∧ Inv X pins σ T.H s1 ∧ Post R' X.K T (f d m1) Q (fun c d H => Fly X c d σ H)) X.xe s := by
  refine thn (ha S r m σ _ sa re (Post.bindI p (Q' := fun v H => ∃ d m1 T, H = T.H ∧ Stp S T ∧ Sta X.K T m1 ∧ Rep X.K T.i T.F d v ∧ Post R' X.K T (f d m1) Q (fun c d H => Fly X c d σ H)) fun d m1 v T st sa1 r1 q => ⟨d, m1, T, rfl, st, sa1, r1, q⟩) pins s I) ?_
  rintro v s1 ⟨x, H1, I1, r1, d, m1, T, rfl, st, sa1, rd, q⟩
  exact ⟨x, d, m1, T, st, sa1, rd, r1, I1, q⟩
theorem OD.run {γ δ : Type} {R' : Wd → γ → δ → Prop} {f : Value → Value → Sem Value} {g : D2} (ho : OD X f g) {S : Wd} {m : Mu} {σ : L2.St} {h : D → Mu → Res γ} {Q : δ → Hp → Prop} {x y : D} {vx vy : V} {u w : Value} (sa : Sta X.K S m)
    (rx : Rep X.K S.i S.F x vx) (ry : Rep X.K S.i S.F y vy) (hu : RelV vx u) (hw : RelV vy w)
    (p : Post R' X.K S ((g x y m).bind h) Q (fun c d H => Fly X c d σ H)) {pins : List (Addr × Obj)} {s : Shared} (I : Inv X pins σ S.H s) :
    wpAny (model X.prog X.w) X.A (f u w) (fun v s1 => ∃ (x : V) (d : D) (m1 : Mu) (T : Wd), Stp S T ∧ Sta X.K T m1 ∧ Rep X.K T.i T.F d x ∧ RelV x v ∧ Inv X pins σ T.H s1 ∧ Post R' X.K T (h d m1) Q (fun c d H => Fly X c d σ H)) X.xe s := by
  refine thn (ho pins s σ S m x y vx vy u w _ sa rx ry I hu hw (Post.bindI p (Q' := fun v H => ∃ d m1 T, H = T.H ∧ Stp S T ∧ Sta X.K T m1 ∧ Rep X.K T.i T.F d v ∧ Post R' X.K T (h d m1) Q (fun c d H => Fly X c d σ H)) fun d m1 v T st sa1 r1 q => ⟨d, m1, T, rfl, st, sa1, r1, q⟩)) ?_
  rintro v s1 ⟨x, H1, I1, r1, d, m1, T, rfl, st, sa1, rd, q⟩
  exact ⟨x, d, m1, T, st, sa1, rd, r1, I1, q⟩
def dChain (g h : D2) (ta tb tc : DE) : DE := fun e m => (ta e m).bind fun x m1 => (tb e m1).bind fun y m2 => (g x y m2).bind fun z m3 => match z with
  | .bl true => (tc e m3).bind fun w m4 => h y w m4
  | .bl false => .ok (.bl false) m3
  | _ => .stuck
end
end DL

namespace DL
open PySem PySem.Spec PyProof.Rows L2
variable [LamTab]
def isStar : Expr → Bool
  | .Starred _ _ => true
  | _ => false
theorem se_cons (e : Expr) (rest : List Expr) (env : Env) (h : isStar e = false) : starEach (e :: rest) env = (false, eval e env) :: starEach rest env := by
  cases e <;> first | rfl | (cases h)
theorem se_any (pos : Pos) (env : Env) : ∀ (es : List Expr), es.all (fun e => !isStar e) = true → (backTo pos (starEach es env)).any (·.1) = false := fun es => by
  induction es with
  | nil => intro _; rfl
  | cons e es ih =>
    intro h
    simp only [List.all_cons, Bool.and_eq_true, Bool.not_eq_true'] at h
    rw [se_cons e es env h.1]
    exact ih h.2
def dNil : DA := fun _ m => .ok [] m
def dCons (t : DE) (u : DA) : DA := fun e m => (t e m).bind fun d m1 => (u e m1).bind fun ds m2 => .ok (d :: ds) m2
section
variable {X : Cx} {a : Expr} {es : List Expr} {ta : DE} {t : DA} {pos : Pos}
theorem pda_nil : PDA X [] dNil := pa_of pa_nil fun S r m σ Q sa re p => Post.ok p (Stp.refl S) sa .nil
theorem pda_cons (ha : PDE X a ta) (hr : PDA X es t) (hs : starEach (a :: es) X.env = (false, eval a X.env) :: starEach es X.env := by exact se_cons _ _ _ rfl) : PDA X (a :: es) (dCons ta t) := by
  refine pa_of (pa_cons (mxE X a) (mxA X es) hs) fun S r m σ Q sa re p => ?_
  refine ha S r m σ _ sa re (Post.bindI p fun d m1 v T st sa1 rd q => ?_)
  refine hr T r m1 σ _ sa1 (re.stp st) (Post.bindI q fun ds m2 vs U st2 sa2 rds q2 => ?_)
  exact Post.ok q2 (Stp.refl U) sa2 (.cons (rd.stp st2) rds)
theorem pda_str {i : Str} {j : Nat} {p : Pos} (hr : PDA X es t) : PDA X (.Constant (.str i) j p :: es) (dCons (dC (.str i)) t) := pda_cons pd_str hr (se_cons _ _ _ rfl)
theorem pda_int {i : Int} {j : Nat} {p : Pos} (hr : PDA X es t) : PDA X (.Constant (.int i) j p :: es) (dCons (dC (.int i)) t) := pda_cons pd_int hr (se_cons _ _ _ rfl)
theorem pda_bl {i : Bool} {j : Nat} {p : Pos} (hr : PDA X es t) : PDA X (.Constant (.bool i) j p :: es) (dCons (dC (.bl i)) t) := pda_cons pd_bl hr (se_cons _ _ _ rfl)
theorem pda_non {j : Nat} {p : Pos} (hr : PDA X es t) : PDA X (.Constant .none j p :: es) (dCons (dC .non) t) := pda_cons pd_non hr (se_cons _ _ _ rfl)
theorem PDA.run {γ δ : Type} {R' : Wd → γ → δ → Prop} (ha : PDA X es t) {S : Wd} {r : En} {m : Mu} {σ : L2.St} {f : List D → Mu → Res γ} {Q : δ → Hp → Prop} (sa : Sta X.K S m) (re : RelE X.K S r σ)
    (p : Post R' X.K S ((t r m).bind f) Q (fun c d H => Fly X c d σ H)) {pins : List (Addr × Obj)} {s : Shared} (I : Inv X pins σ S.H s) (pos : Pos) :
    wpAny (model X.prog X.w) X.A (spliced (backTo pos (starEach es X.env))) (fun us s1 => ∃ (xs : List V) (ds : List D) (m1 : Mu) (T : Wd), Stp S T ∧ Sta X.K T m1 ∧ Reps X.K T.i T.F ds xs ∧ Vals xs us ∧ Inv X pins σ T.H s1 ∧ Post R' X.K T (f ds m1) Q (fun c d H => Fly X c d σ H)) X.xe s := by
  refine thn (ha S r m σ _ sa re (Post.bindI p (Q' := fun v H => ∃ d m1 T, H = T.H ∧ Stp S T ∧ Sta X.K T m1 ∧ Reps X.K T.i T.F d v ∧ Post R' X.K T (f d m1) Q (fun c d H => Fly X c d σ H)) fun d m1 v T st sa1 r1 q => ⟨d, m1, T, rfl, st, sa1, r1, q⟩) pos pins s I) ?_
  rintro us s1 ⟨xs, H1, I1, r1, d, m1, T, rfl, st, sa1, rd, q⟩
  exact ⟨xs, d, m1, T, st, sa1, rd, r1, I1, q⟩
def dTup (t : DA) : DE := fun e m => (t e m).bind fun ds m1 => if ds.length ≤ sizeLine then .ok (.tup ds) m1 else .stuck
def dLst (t : DA) : DE := fun e m => (t e m).bind fun ds m1 => if ds.length ≤ sizeLine then .ok (.lst ds) m1 else .stuck
def dLoc (t : DA) : DE := fun e m => (t e m).bind fun ds m1 => if ds.length ≤ sizeLine then .ok (.loc m1.length) (m1 ++ [.lst ds]) else .stuck
theorem pd_tup {x1} (h : PDA X es t) : PDE X (.Tuple es x1 pos) (dTup t) := by
  refine pd_of (pe_tup (mxA X es)) fun S r m σ Q sa re p => ?_
  refine h S r m σ _ sa re (Post.bindI p fun ds m1 vs T st sa1 rds q => ?_)
  split at q
  · rename_i hl
    refine ⟨by rw [← rds.len]; exact hl, fun p hp => ?_⟩
    have st1 := Stp.new sa1 (o := .tup vs) hp
    exact q (.ref p) (T.new p (.tup vs)) st1 (sa1.new hp) (.tup (.inl (.inl upd_same)) (rds.stp st1))
  · exact q.elim
theorem pd_lst (h : PDA X es t) : PDE X (.List es pos) (dLst t) := by
  refine pd_of (pe_lst (mxA X es)) fun S r m σ Q sa re p => ?_
  refine h S r m σ _ sa re (Post.bindI p fun ds m1 vs T st sa1 rds q => ?_)
  split at q
  · rename_i hl
    refine ⟨by rw [← rds.len]; exact hl, fun p hp => ?_⟩
    have st1 := Stp.new sa1 (o := .lst vs) hp
    exact q (.ref p) (T.new p (.lst vs)) st1 (sa1.new hp) (.lst (.inl (.inl upd_same)) (rds.stp st1))
  · exact q.elim
theorem pd_loc (h : PDA X es t) : PDE X (.List es pos) (dLoc t) := by
  refine pd_of (pe_lst (mxA X es)) fun S r m σ Q sa re p => ?_
  refine h S r m σ _ sa re (Post.bindI p fun ds m1 vs T st sa1 rds q => ?_)
  split at q
  · rename_i hl
    refine ⟨by rw [← rds.len]; exact hl, fun p hp => ?_⟩
    have st1 := Stp.tok sa1 (o := .lst vs) hp
    refine q (.ref p) (T.tok p (.lst vs)) st1 (sa1.tok hp (q := .lst ds) ⟨vs, upd_same, rds.stp st1⟩) (.loc ?_)
    show (T.i ++ [p])[m1.length]? = some p
    rw [← sa1.len, List.getElem?_append_right (Nat.le_refl _), Nat.sub_self]
    rfl
  · exact q.elim
end
def spD (K : PySem.W.Frag) (n : Nat) (F : DFn) : Sp := fun vs H Q E => vs.length = n ∧ ∃ (S : Wd) (m : Mu) (ds : List D), S.H = H ∧ Sta K S m ∧ Reps K S.i S.F ds vs ∧ PostD K S (F ds m) Q E
abbrev FnD (P : Program) (w : World) (K : PySem.W.Frag) (mg : Str → Option Value) (base : Heap) (k : Nat) (f : Addr) (fd : FuncData) (ps : List Str) (F : DFn) : Prop := FnOk P w K mg base (L2.CX P w) k f fd ps (spD K ps.length F)
def env0 (N : Nat) (ds : List D) : En := ds.map some ++ List.replicate (N - ds.length) none
def dFn (N : Nat) (body : DS) : DFn := fun ds m => match body (env0 N ds) m with
  | .nx _ m1 => .ok .non m1
  | .rt d m1 => .ok d m1
  | .exc C fs _ m1 => .exc C fs m1
  | _ => .stuck
theorem relE_start {K : PySem.W.Frag} {S : Wd} {ds : List D} {vs : List V} {N : List Str} (r : Reps K S.i S.F ds vs) : RelE K S (env0 N.length ds) (L2.start N vs) := by
  have hl := r.len
  refine ⟨by simp [env0, L2.start, hl], fun i d e => ?_⟩
  unfold env0 at e
  by_cases hi : i < ds.length
  · rw [List.getElem?_append_left (by simpa using hi), List.getElem?_map] at e
    cases q : ds[i]? with
    | none => rw [q] at e; cases e
    | some d' =>
      rw [q] at e; cases e
      obtain ⟨v, h1, h2⟩ := r.get q
      refine ⟨v, ?_, h2⟩
      unfold L2.start
      rw [List.getElem?_append_left (by rw [List.length_map, ← hl]; exact hi), List.getElem?_map, h1]
      rfl
  · rw [List.getElem?_append_right (by simpa using hi), List.getElem?_replicate] at e
    split at e <;> cases e
section
variable {P : Program} {w : World} {K : PySem.W.Frag} {mg : Str → Option Value} {base : Heap}
theorem fnD_of {x qual : Str} {params : Arguments} {body : List Stmt} {scope : Scope} {dvs : List V} {kws : List (Str × V)} {f : Addr} {fd : FuncData} {N ps : List Str} {k : Nat} {t : DS} (F : FunD K x qual params body scope dvs kws f fd) (S : FnScope N ps scope)
    (h : ∀ (cdv : Value) (A : Around) (outer : List Env) (s : Shared) (H : Hp) (E : XK), Room k (A.deeper (envOfC qual scope s.heap.objs.size f cdv)) → PDSs (cxOf (L2.CX P w) P w K mg base N qual scope f cdv A outer s H E) body t) :
    FnD P w K mg base (k + 1) f fd ps (dFn N.length t) := by
  refine F.ok S (fun vs H Q E h => h.1) fun cdv A outer s H vs Q E hr hsp => ⟨_, mxSs _ body, ?_⟩
  obtain ⟨_, T, m, ds, rfl, sa, rd, p⟩ := hsp
  refine h cdv A outer s T.H E hr T (env0 N.length ds) m (L2.start N vs) _ sa (relE_start rd) ?_
  have tk : Takes (cxOf (L2.CX P w) P w K mg base N qual scope f cdv A outer s T.H E) (fun cls d _ H => E cls d H) := takes_of rfl rfl rfl rfl
  unfold dFn at p
  cases q : t (env0 N.length ds) m with
  | stuck => rw [q] at p; exact p.elim
  | nx e m1 => rw [q] at p; exact fun σ U st sa1 re => p .non U st sa1 .non
  | rt d m1 => rw [q] at p; exact fun v U st sa1 r1 => p v U st sa1 r1
  | bk e m1 => rw [q] at p; exact p.elim
  | ct e m1 => rw [q] at p; exact p.elim
  | exc C fs e m1 => rw [q] at p; exact fun dd vs σ U st hn sa1 re h1 h2 => Fly.of tk (p dd vs U st hn sa1 h1 h2)
theorem FnD.imp' {k : Nat} {f : Addr} {fd : FuncData} {ps : List Str} {F G : DFn} (h : FnD P w K mg base k f fd ps F) (e : ∀ ds m, G ds m ≠ .stuck → F ds m = G ds m) : FnD P w K mg base k f fd ps G :=
  FnOk.imp h fun vs H Q E ⟨h1, S, m, ds, h2, h3, h4, h5⟩ => ⟨h1, S, m, ds, h2, h3, h4, by
    by_cases hs : G ds m = .stuck
    · rw [hs] at h5; exact h5.elim
    · rw [e ds m hs]; exact h5⟩
end
structure Bd (K : PySem.W.Frag) (fd : FuncData) (ps : List Str) (dds : List D) : Prop where
  ex : ∃ (ds : List Value) (dvs : List V), Binds K fd ps ds ∧ Vals dvs ds ∧ ∀ (i : List Addr) (F : Hp), Reps K i F dds dvs
theorem Bd.nil {K : PySem.W.Frag} {fd : FuncData} {ps : List Str} (h : Binds K fd ps []) : Bd K fd ps [] := ⟨[], [], h, .nil, fun _ _ => .nil⟩
section
variable {X : Cx} {k : Nat} {f : Addr} {fd : FuncData} {ps : List Str} {G : DFn} {dds : List D}
variable {x mn : Str} {p pos apos : Pos} {e o : Expr} {es : List Expr} {t : DA} {to : DE}
def insOf (m : Mu) : D → Option (Addr × List Str × List D)
  | .obj c ds => some (c.a, c.ns, ds)
  | .loc n => match m[n]? with
    | some (.ins C fs) => some (C, fs.map (·.1), fs.map (·.2))
    | _ => none
  | _ => none
theorem RepF.split {K : PySem.W.Frag} {i : List Addr} {F : Hp} : ∀ {fs : List (Str × D)} {vs : List (Str × V)}, RepF K i F fs vs → vs.map (·.1) = fs.map (·.1) ∧ Reps K i F (fs.map (·.2)) (vs.map (·.2))
  | _, _, .nil => ⟨rfl, .nil⟩
  | _, _, .cons h r => ⟨by simp [(RepF.split r).1], .cons h (RepF.split r).2⟩
theorem insOf_ok {K : PySem.W.Frag} {S : Wd} {m : Mu} {d : D} {v : V} {C : Addr} {ns : List Str} {ds : List D} (sa : Sta K S m) (r : Rep K S.i S.F d v) (h : insOf m d = some (C, ns, ds)) :
    ∃ a dx vs, v = .ref a ∧ S.H a = some (.ins C dx vs) ∧ vs.map (·.1) = ns ∧ Reps K S.i S.F ds (vs.map (·.2)) := by
  cases r with
  | obj h1 h2 h3 => cases h; exact ⟨_, _, _, rfl, sa.sub _ _ h1, h2, h3⟩
  | @loc n a h1 =>
    unfold insOf at h
    dsimp only at h
    split at h
    · rename_i C' fs e
      cases h
      obtain ⟨dx, vs, q1, q2⟩ := sa.ok n a _ h1 e
      exact ⟨a, dx, vs, rfl, q1, q2.split.1, q2.split.2⟩
    · cases h
  | _ => cases h
theorem lookup_at {α : Type} {f : Str} : ∀ {vs : List (Str × α)} {i : Nat} {v : α}, (vs.map (·.1))[i]? = some f → f ∉ (vs.map (·.1)).take i → (vs.map (·.2))[i]? = some v → vs.lookup f = some v
  | [], _, _, h, _, _ => by simp at h
  | (g, x) :: r, 0, v, h, _, h3 => by
    simp at h h3; subst h; subst h3
    simp [List.lookup_cons]
  | (g, x) :: r, i + 1, v, h, h2, h3 => by
    have hne : f ≠ g := by
      intro e; subst e
      exact h2 (by simp)
    rw [List.lookup_cons]
    have : (f == g) = false := by simpa using hne
    rw [this]
    refine lookup_at (i := i) (by simpa using h) (fun z => h2 ?_) (by simpa using h3)
    simp only [List.map_cons, List.take_succ_cons]
    exact List.mem_cons_of_mem _ z
theorem lookup_not {α : Type} {f : Str} : ∀ {vs : List (Str × α)}, f ∉ vs.map (·.1) → vs.lookup f = none
  | [], _ => rfl
  | (g, x) :: r, h => by
    have hne : f ≠ g := fun e => h (by subst e; simp)
    rw [List.lookup_cons]
    have : (f == g) = false := by simpa using hne
    rw [this]
    exact lookup_not fun z => h (by simp only [List.map_cons]; exact List.mem_cons_of_mem _ z)
def fldAt (rows : List (Kl × Nat)) (C : Addr) (ns : List Str) (ds : List D) : Option D := match rows with
  | [] => none
  | (c, i) :: rest => if C = c.a ∧ ns = c.ns then ds[i]? else fldAt rest C ns ds
def dFld (rows : List (Kl × Nat)) (t : DE) : DE := fun e m => (t e m).bind fun d m1 => match insOf m1 d with
  | some (C, ns, ds) => match fldAt rows C ns ds with
    | some x => .ok x m1
    | none => .stuck
  | none => .stuck
structure FldOk (K : PySem.W.Frag) (f : Str) (c : Kl) (i : Nat) : Prop where
  cl : Cls K c.a
  no : NoAttr K c.a f
  at_ : c.ns[i]? = some f
  fst : f ∉ c.ns.take i
theorem fldAt_ok {K : PySem.W.Frag} {f : Str} : ∀ {rows : List (Kl × Nat)} {C : Addr} {ns : List Str} {ds : List D} {d : D}, (∀ r ∈ rows, FldOk K f r.1 r.2) → fldAt rows C ns ds = some d → ∃ c i, FldOk K f c i ∧ C = c.a ∧ ns = c.ns ∧ ds[i]? = some d
  | [], _, _, _, _, _, h => by cases h
  | (c, i) :: rest, C, ns, ds, d, hr, h => by
    unfold fldAt at h
    split at h
    · rename_i e
      exact ⟨c, i, hr _ List.mem_cons_self, e.1, e.2, h⟩
    · exact fldAt_ok (fun r hm => hr r (List.mem_cons_of_mem _ hm)) h
theorem pd_fld {f : Str} {rows : List (Kl × Nat)} (he : PDE X o to) (hrows : ∀ r ∈ rows, FldOk X.K f r.1 r.2) (hb : attributeBase o f X.env (eval o X.env) = eval o X.env := by rfl) : PDE X (.Attribute o f pos) (dFld rows to) := by
  refine pd_of (pe_fld (mxE X o) hb) fun S r m σ Q sa re p => ?_
  refine he S r m σ _ sa re (Post.bindI p fun d m1 v T st sa1 rd q => ?_)
  split at q
  · rename_i C ns ds e
    split at q
    · rename_i x ex
      obtain ⟨c, i, ok, rfl, rfl, hx⟩ := fldAt_ok hrows ex
      obtain ⟨a, dx, vs, rfl, h1, h2, h3⟩ := insOf_ok sa1 rd e
      obtain ⟨y, hy, ry⟩ := h3.get hx
      exact ⟨a, c.a, dx, vs, y, rfl, h1, ok.cl, ok.no, lookup_at (by rw [h2]; exact ok.at_) (by rw [h2]; exact ok.fst) hy, Post.ok q (Stp.refl T) sa1 ry⟩
    · exact q.elim
  · exact q.elim
end
end DL

namespace DL
open PySem PySem.Spec PyProof.Rows L2
variable [LamTab]
def padF (n : Nat) (dds : List D) (G : DFn) : DFn := fun ds m => if (ds ++ dds).length = n then G (ds ++ dds) m else .stuck
section
variable (P : Program) (w : World) (K : PySem.W.Frag) (mg : Str → Option Value) (base : Heap)
structure FT (k : Nat) (x : Str) (G : DFn) : Prop where
  ex : ∃ (f : Addr) (fd : FuncData) (ps : List Str) (dds : List D) (G0 : DFn), mg x = some (.ref f) ∧ PySem.W.keepIn K (.ref f) = true ∧ FnD P w K mg base k f fd ps G0 ∧ Bd K fd ps dds ∧ G = padF ps.length dds G0
structure MT (k : Nat) (mn : Str) (C : Addr) (G : DFn) : Prop where
  ex : ∃ (f : Addr) (fd : FuncData) (ps : List Str) (dds : List D) (G0 : DFn), PySem.W.findIn K (.ref C) mn = some (some (.ref f)) ∧ PySem.W.isFn K (.ref f) = true ∧ PySem.W.keepIn K (.ref f) = true ∧ FnD P w K mg base k f fd ps G0 ∧ Bd K fd ps dds ∧ G = padF ps.length dds G0
end
section
variable {X : Cx}
theorem run_fnA {k : Nat} {f : Addr} {fd : FuncData} {ps : List Str} {G : DFn} {dds : List D} {A : Around} {pins : List (Addr × Obj)} {σ : L2.St} {S : Wd} {m : Mu} {s : Shared} {Q : VK} {us : List Value} {vs : List V} {das : List D} (F : FnD X.prog X.w X.K X.mg X.base k f fd ps G) (hr : Room k A) (hb : Bd X.K fd ps dds)
    (hA : A.frames = X.A.frames) (I : Inv X pins σ S.H s) (sa : Sta X.K S m) (r : Reps X.K S.i S.F das vs) (rv : Vals vs us) (h : PostD X.K S (padF ps.length dds G das m) Q (fun c d H => Fly X c d σ H)) : wpAny (model X.prog X.w) A (call (.ref f) us) (EP X pins σ Q) X.xe s := by
  unfold padF at h
  split at h
  · rename_i hl
    obtain ⟨ds, dvs, hb, hd, hD⟩ := hb.ex
    have r1 : Reps X.K S.i S.F (das ++ dds) (vs ++ dvs) := r.append (hD _ _)
    have r2 : Vals (vs ++ dvs) (us ++ ds) := rv.append hd
    have hlv : (vs ++ dvs).length = ps.length := by rw [← r1.len]; exact hl
    have hl2 : (us ++ ds).length = ps.length := by rw [← r2.length]; exact hlv
    have e0 := I.env0
    have e1 : Env0 X.prog X.w X.K X.mg X.base A X.stack s S.H := ⟨hA.trans e0.frames, e0.mod, e0.bs, e0.bsz, e0.funs, e0.frf, e0.hok, e0.bare⟩
    refine wpAny_call (codeAny_mono (F.run A X.stack s S.H ⟨us, []⟩ (us ++ ds) (vs ++ dvs) Q (fun c d H => Fly X c d σ H) hr e1 (hb s us I.kIn hl2) r2 ⟨hlv, S, m, _, rfl, sa, r1, h⟩) fun r s' hq => ?_)
    cases r with
    | error e =>
      obtain ⟨a, B, sI, pins', σ', H', cls, d, e1, I', nb, up, sky, na, os, ag, e2, fl⟩ := XE.of_call I (W := fun c d σ' H => σ' = σ ∧ Fly X c d σ H) (fun cls d H' h => ⟨rfl, h⟩) hq
      exact fl e s' ⟨a, B, sI, pins', σ', H', cls, d, e1, I', nb, up, sky, na, os, ag, rfl, rfl, e2, rfl⟩
    | ok fl =>
      cases fl with
      | ret u => exact I.after hq
      | next => exact False.elim hq
      | brk => exact False.elim hq
      | cont => exact False.elim hq
  · exact h.elim
def dFun (G : DFn) (t : DA) : DE := fun e m => (t e m).bind G
variable {k : Nat} {G : DFn} {x mn : Str} {p pos apos : Pos} {e o : Expr} {es : List Expr} {t : DA} {to ta tb : DE}
theorem pd_fun (F : FT X.prog X.w X.K X.mg X.base k x G) (hr : Room k X.A) (ha : PDA X (e :: es) t)
    (hg : Gl X x := by rfl) (hdb : (x == ("__debug__" : Str)) = false := by decide) (he : starEach (e :: es) X.env = (false, eval e X.env) :: starEach es X.env := by exact se_cons _ _ _ rfl) (hpl : (backTo pos (starEach es X.env)).any (·.1) = false := by exact se_any _ _ _ rfl) :
    PDE X (.Call (.Name x p) (e :: es) [] pos) (dFun G t) := by
  obtain ⟨f, fd, ps, dds, G0, hm, hk, hf, hb, rfl⟩ := F.ex
  intro S r m σ Q sa re q pins s I
  refine wpAny_Call_Name_kw (ld_glob I hg hm ?_ hdb)
  refine PySem.W.callWith_K (h₀ := X.base) I.ok.mod.kin hk (thn (ha.run sa re q I pos) ?_) he hpl
  rintro us s1 ⟨xs, ds, m1, T, st, sa1, rds, rv, I1, q1⟩
  exact ⟨I1.kIn, run_fnA hf hr hb rfl I1 sa1 rds rv q1⟩
def methAt (rows : List (Kl × DFn)) (C : Addr) (ns : List Str) : Option DFn := match rows with
  | [] => none
  | (c, G) :: rest => if C = c.a ∧ ns = c.ns then some G else methAt rest C ns
theorem methAt_ok {P : Kl → DFn → Prop} : ∀ {rows : List (Kl × DFn)} {C : Addr} {ns : List Str} {G : DFn}, (∀ r ∈ rows, P r.1 r.2) → methAt rows C ns = some G → ∃ c, P c G ∧ C = c.a ∧ ns = c.ns
  | [], _, _, _, _, h => by cases h
  | (c, i) :: rest, C, ns, d, hr, h => by
    unfold methAt at h
    split at h
    · rename_i e
      cases h
      exact ⟨c, hr _ List.mem_cons_self, e.1, e.2⟩
    · exact methAt_ok (fun r hm => hr r (List.mem_cons_of_mem _ hm)) h
def dMeth (rows : List (Kl × DFn)) (to : DE) (t : DA) : DE := fun e m => (to e m).bind fun o m1 => match insOf m1 o with
  | some (C, ns, _) => match methAt rows C ns with
    | some G => (t e m1).bind fun ds m2 => G (o :: ds) m2
    | none => .stuck
  | none => .stuck
structure MethOk (P : Program) (w : World) (K : PySem.W.Frag) (mg : Str → Option Value) (base : Heap) (k : Nat) (mn : Str) (c : Kl) (G : DFn) : Prop where
  cl : Cls K c.a
  mt : MT P w K mg base k mn c.a G
  no : mn ∉ c.ns
theorem pd_meth {rows : List (Kl × DFn)} {pl : Sem Bool} (he : PDE X o to) (hrows : ∀ r ∈ rows, MethOk X.prog X.w X.K X.mg X.base k mn r.1 r.2) (hr : Room k X.A) (ha : PDA X (e :: es) t)
    (hst : starEach (e :: es) X.env = (false, eval e X.env) :: starEach es X.env := by exact se_cons _ _ _ rfl) (hpl : (backTo pos (starEach es X.env)).any (·.1) = false := by exact se_any _ _ _ rfl)
    (ht : eval (.Call (.Attribute o mn apos) (e :: es) [] pos) X.env = (do
      let ov ← eval o X.env
      standAt apos.atName
      let (f, first) ← holding [ov] (getMethod ov mn pl)
      callWith pos f first (backTo pos (starEach (e :: es) X.env)) (backToKw pos (keywordEach [] X.env))) := by rfl) :
    PDE X (.Call (.Attribute o mn apos) (e :: es) [] pos) (dMeth rows to t) := by
  intro S r m σ Q sa re q pins s I
  refine PySem.W.methodCall_KW (pl := pl) (thn (he.run sa re q I) ?_) ht
  rintro u s1 ⟨x, d, m1, T, st, sa1, rd, rx, I1, q1⟩
  split at q1
  · rename_i C ns ds ei
    split at q1
    · rename_i G eG
      obtain ⟨c, ok, rfl, rfl⟩ := methAt_ok (P := MethOk X.prog X.w X.K X.mg X.base k mn) hrows eG
      obtain ⟨a, dx, vs, rfl, h1, h2, h3⟩ := insOf_ok sa1 rd ei
      obtain ⟨f, fd, ps, dds, G0, hf1, hf2, hk, hf, hb, rfl⟩ := ok.mt.ex
      obtain rfl : u = Value.ref a := rx
      refine getmeth_ok I1 h1 ok.cl ⟨hf1, hf2, hk⟩ (lookup_not (by rw [h2]; exact ok.no)) ?_
      refine PySem.W.callWith_K (first := [.ref a]) (h₀ := X.base) I.ok.mod.kin hk (thn (ha.run sa1 (re.stp st) q1 I1 pos) ?_) hst hpl
      rintro us s2 ⟨xs, das, m2, U, st2, sa2, rds, rv, I2, q2⟩
      exact ⟨I2.kIn, run_fnA (us := .ref a :: us) hf hr hb rfl I2 sa2 (.cons (rd.stp st2) rds) (.cons rfl rv) q2⟩
    · exact (show False from q1).elim
  · exact (show False from q1).elim
theorem pd_meth0 {rows : List (Kl × DFn)} {pl : Sem Bool} (he : PDE X o to) (hrows : ∀ r ∈ rows, MethOk X.prog X.w X.K X.mg X.base k mn r.1 r.2) (hr : Room k X.A)
    (ht : eval (.Call (.Attribute o mn apos) [] [] pos) X.env = (do
      let ov ← eval o X.env
      standAt apos.atName
      let (f, first) ← holding [ov] (getMethod ov mn pl)
      callWith pos f first (backTo pos (starEach [] X.env)) (backToKw pos (keywordEach [] X.env))) := by rfl) :
    PDE X (.Call (.Attribute o mn apos) [] [] pos) (dMeth rows to dNil) := by
  intro S r m σ Q sa re q pins s I
  refine PySem.W.methodCall_KW (pl := pl) (thn (he.run sa re q I) ?_) ht
  rintro u s1 ⟨x, d, m1, T, st, sa1, rd, rx, I1, q1⟩
  split at q1
  · rename_i C ns ds ei
    split at q1
    · rename_i G eG
      obtain ⟨c, ok, rfl, rfl⟩ := methAt_ok (P := MethOk X.prog X.w X.K X.mg X.base k mn) hrows eG
      obtain ⟨a, dx, vs, rfl, h1, h2, h3⟩ := insOf_ok sa1 rd ei
      obtain ⟨f, fd, ps, dds, G0, hf1, hf2, hk, hf, hb, rfl⟩ := ok.mt.ex
      obtain rfl : u = Value.ref a := rx
      refine getmeth_ok I1 h1 ok.cl ⟨hf1, hf2, hk⟩ (lookup_not (by rw [h2]; exact ok.no)) ?_
      exact PySem.W.callWith_K0 (first := [.ref a]) I1.kIn hk (run_fnA (us := [.ref a]) hf hr hb rfl I1 sa1 (.cons rd .nil) (.cons rfl .nil) q1)
    · exact (show False from q1).elim
  · exact (show False from q1).elim
structure PropOk (P : Program) (w : World) (K : PySem.W.Frag) (mg : Str → Option Value) (base : Heap) (k : Nat) (f : Str) (c : Kl) (G : DFn) : Prop where
  cl : Cls K c.a
  ex : ∃ (p g : Addr) (fd : FuncData) (ps : List Str) (G0 : DFn), PropOf K c.a f p g ∧ FnD P w K mg base k g fd ps G0 ∧ Bd K fd ps [] ∧ G = padF ps.length [] G0
def noExc (r : Res D) : Res D := match r with
  | .ok d m => .ok d m
  | _ => .stuck
def dProp (rows : List (Kl × DFn)) (to : DE) : DE := fun e m => (to e m).bind fun o m1 => match insOf m1 o with
  | some (C, ns, _) => match methAt rows C ns with
    | some G => noExc (G [o] m1)
    | none => .stuck
  | none => .stuck
theorem pd_prop {f : Str} {rows : List (Kl × DFn)} (he : PDE X o to) (hrows : ∀ r ∈ rows, PropOk X.prog X.w X.K X.mg X.base k f r.1 r.2) (hr : Room (k + 1) X.A) (hab : attributeBase o f X.env (eval o X.env) = eval o X.env := by rfl) :
    PDE X (.Attribute o f pos) (dProp rows to) := by
  intro S r m σ Q sa re q pins s I
  refine attr_of hab (thn (he.run sa re q I) ?_)
  rintro u s1 ⟨x, d, m1, T, st, sa1, rd, rx, I1, q1⟩
  split at q1
  · rename_i C ns ds ei
    split at q1
    · rename_i G eG
      obtain ⟨c, ok, rfl, rfl⟩ := methAt_ok (P := PropOk X.prog X.w X.K X.mg X.base k f) hrows eG
      obtain ⟨a, dx, vs, rfl, h1, h2, h3⟩ := insOf_ok sa1 rd ei
      obtain ⟨pp, g, fd, ps, G0, hp, hf, hb, rfl⟩ := ok.ex
      obtain rfl : u = Value.ref a := rx
      unfold padF at q1
      split at q1
      · rename_i hl
        have hl' : [d].length = ps.length := by simpa using hl
        cases hG : G0 ([d] ++ []) m1 with
        | stuck => rw [hG] at q1; exact (show False from q1).elim
        | exc C fs m2 => rw [hG] at q1; exact (show False from q1).elim
        | ok dv m2 =>
          rw [hG] at q1
          obtain ⟨ds', dvs, hb1, hd1, hD⟩ := hb.ex
          have hnil : dvs = [] := by
            have := hD [] (fun _ => none)
            cases this; rfl
          subst hnil
          cases hd1
          refine getprop_ok (sp := spD X.K ps.length G0) (E := E0) I1 h1 ok.cl hp hf hr hb1 .nil passL ⟨by simpa using hl', T, m1, [d], rfl, sa1, .cons rd .nil, ?_⟩
          rw [show ([d] : List D) = [d] ++ [] from rfl, hG]
          exact q1
      · exact (show False from q1).elim
    · exact (show False from q1).elim
  · exact (show False from q1).elim
theorem Inv.inst {pins : List (Addr × Obj)} {σ : L2.St} {H : Hp} {s : Shared} {a C dx : Addr} {fs : List (Str × V)} (I : Inv X pins σ H s) (e : H a = some (.ins C dx fs)) : ∃ od, PySem.W.InstAt s.heap a (PySem.W.instObj C dx) C (some od) := by
  obtain ⟨mA, O, _, _, _, _⟩ := ins_get I.hok e
  obtain ⟨od, J, _⟩ := O.look
  exact ⟨od, J⟩
theorem cmpBack_of {Q : Value → Shared → Prop} {pins : List (Addr × Obj)} {σ : L2.St} {Q' : VK} {v : Value} {s : Shared} (h : EP X pins σ Q' v s) (k : EP X pins σ Q' v s → Q v s) : PySem.W.CmpBack Q v s := by
  obtain ⟨y, H, I, r, q⟩ := id h
  cases y with
  | non => cases r; exact k h
  | bl b => cases r; exact k h
  | int i => obtain ⟨t, rfl⟩ := r; exact k h
  | str i => obtain ⟨t, rfl⟩ := r; exact k h
  | byt i => obtain ⟨t, rfl⟩ := r; exact k h
  | flt i => obtain ⟨t, rfl⟩ := r; exact k h
  | ref a => cases r; exact k h
  | ty n => cases r; exact k h
def dOwn2 (C : Addr) (G : DFn) : D2 := fun x y m => match insOf m x, insOf m y with
  | some (C1, _, _), some (C2, _, _) => if C1 = C ∧ C2 = C then G [x, y] m else .stuck
  | _, _ => .stuck
theorem od_own {op : Operator} {C : Addr} {G : DFn} (hm : MT X.prog X.w X.K X.mg X.base k (PySem.dunder op.info.2) C G) (hc : PySem.W.selfFirst X.K C = true) (hr : Room k X.A) : OD X (binaryOp op) (dOwn2 C G) := by
  intro pins s σ S m x y vx vy u w Q sa rx ry I hu hw p
  unfold dOwn2 at p
  split at p
  · rename_i C1 n1 d1 C2 n2 d2 e1 e2
    split at p
    · rename_i hC
      obtain ⟨rfl, rfl⟩ := hC
      obtain ⟨a, dx, vs, rfl, h1, _, _⟩ := insOf_ok sa rx e1
      obtain ⟨b, dy, ws, rfl, h2, _, _⟩ := insOf_ok sa ry e2
      obtain rfl : u = Value.ref a := hu
      obtain rfl : w = Value.ref b := hw
      obtain ⟨f, fd, ps, dds, G0, hf1, hf2, hk, hf, hb, rfl⟩ := hm.ex
      obtain ⟨od1, J1⟩ := Inv.inst I h1
      obtain ⟨od2, J2⟩ := Inv.inst I h2
      obtain ⟨mm, F⟩ := I.fr
      refine PySem.W.binop_K F I.ok.mod.kin J1 J2.type hc hf1 hf2 (thn (run_fnA (us := [.ref a, .ref b]) hf hr hb rfl I sa (.cons rx (.cons ry .nil)) (.cons rfl (.cons rfl .nil)) p) fun v s1 h => cmpBack_of h fun h => h)
    · exact p.elim
  · exact p.elim
def dNeg (C : Addr) (G : DFn) (t : DE) : DE := fun e m => (t e m).bind fun x m1 => match x with
  | .int i => .ok (.int (-i)) m1
  | _ => match insOf m1 x with
    | some (C1, _, _) => if C1 = C then G [x] m1 else .stuck
    | none => .stuck
theorem pd_neg {C : Addr} {G : DFn} (ha : PDE X o ta) (hm : MT X.prog X.w X.K X.mg X.base k "__neg__" C G) (hr : Room k X.A) : PDE X (.UnaryOp .USub o pos) (dNeg C G ta) := by
  intro S r m σ Q sa re q pins s I
  refine UnaryOp_ (thn (ha.run sa re q I) ?_)
  rintro u s1 ⟨x, d, m1, T, st, sa1, rd, rx, I1, q1⟩
  split at q1
  · cases rd
    exact un_neg pins s1 σ T.H _ u Q I1 rx ⟨_, rfl, Post.ok q1 (Stp.refl T) sa1 (.int _)⟩
  · split at q1
    · rename_i C1 n1 d1 e1
      split at q1
      · rename_i hC
        subst hC
        obtain ⟨a, dx, vs, rfl, h1, _, _⟩ := insOf_ok sa1 rd e1
        obtain rfl : u = Value.ref a := rx
        obtain ⟨f, fd, ps, dds, G0, hf1, hf2, hk, hf, hb, rfl⟩ := hm.ex
        obtain ⟨od1, J1⟩ := Inv.inst I1 h1
        obtain ⟨mm, F⟩ := I1.fr
        exact PySem.W.ksp_neg F I1.ok.mod.kin J1 hf1 hf2 (run_fnA (us := [.ref a]) hf hr hb rfl I1 sa1 (.cons rd .nil) (.cons rfl .nil) q1)
      · exact (show False from q1).elim
    · exact (show False from q1).elim
def dNegI (t : DE) : DE := fun e m => (t e m).bind fun x m1 => match x with
  | .int i => .ok (.int (-i)) m1
  | _ => .stuck
theorem pd_negI (ha : PDE X o ta) : PDE X (.UnaryOp .USub o pos) (dNegI ta) := by
  refine pd_of (pe_un un_neg (mxE X o)) fun S r m σ Q sa re p => ?_
  refine ha S r m σ _ sa re (Post.bindI p fun d m1 v T st sa1 rd q => ?_)
  cases rd with
  | int i => exact ⟨i, rfl, Post.ok q (Stp.refl T) sa1 (.int _)⟩
  | _ => exact q.elim
end
end DL

namespace DL
open PySem PySem.Spec PyProof.Rows L2
variable [LamTab]
section
variable {X : Cx}
def gI2 (C : Int → Int → Bool) (k : Int → Int → D) : D2 := fun x y m => match x with
  | .int i => match y with
    | .int j => if C i j then .ok (k i j) m else .stuck
    | _ => .stuck
  | _ => .stuck
theorem od_i2 {f : Value → Value → Sem Value} {C : Int → Int → Bool} {C' : Int → Int → Prop} {k : Int → Int → D} {k' : Int → Int → V} (ho : OpR X f (rI C' k')) (hC : ∀ i j, C i j = true → C' i j) (hk : ∀ K i F a b, Rep K i F (k a b) (k' a b)) : OD X f (gI2 C k) := by
  refine od_of ho fun S m x y vx vy Q W sa rx ry p => ?_
  unfold gI2 at p
  cases rx with
  | int i =>
    cases ry with
    | int j =>
      dsimp only at p
      split at p
      · rename_i hc
        exact ⟨i, j, rfl, rfl, hC i j hc, Post.ok p (Stp.refl S) sa (hk _ _ _ i j)⟩
      · exact p.elim
    | _ => exact p.elim
  | _ => exact p.elim
def gI0 (k : Int → Int → D) : D2 := fun x y m => match x with
  | .int i => match y with
    | .int j => .ok (k i j) m
    | _ => .stuck
  | _ => .stuck
theorem od_i0 {f : Value → Value → Sem Value} {k : Int → Int → D} {k' : Int → Int → V} (ho : OpR X f (rI0 k')) (hk : ∀ K i F a b, Rep K i F (k a b) (k' a b)) : OD X f (gI0 k) := by
  refine od_of ho fun S m x y vx vy Q W sa rx ry p => ?_
  unfold gI0 at p
  cases rx with
  | int i =>
    cases ry with
    | int j => exact ⟨i, j, rfl, rfl, Post.ok p (Stp.refl S) sa (hk _ _ _ i j)⟩
    | _ => exact p.elim
  | _ => exact p.elim
abbrev gAdd : D2 := gI0 fun i j => .int (i + j)
abbrev gSub : D2 := gI0 fun i j => .int (i - j)
def mulOk (i j : Int) : Bool := decide (i.natAbs.log2 + j.natAbs.log2 < 1000000)
def divOk (_ j : Int) : Bool := decide (j ≠ 0 ∧ j.natAbs.log2 < 9000)
abbrev gMul : D2 := gI2 mulOk fun i j => .int (i * j)
abbrev gDiv : D2 := gI2 divOk fun i j => .int (i.fdiv j)
abbrev gMod : D2 := gI2 (fun _ j => decide (0 < j)) fun i j => .int (i % j)
def powOk (i j : Int) : Bool := decide (0 ≤ j ∧ j ≤ 1000000 ∧ i.natAbs < 2 ^ 64)
abbrev gPow : D2 := gI2 powOk fun i j => .int (i ^ j.toNat)
theorem od_add : OD X (binaryOp .Add) gAdd := od_i0 op_add fun _ _ _ _ _ => .int _
theorem od_sub : OD X (binaryOp .Sub) gSub := od_i0 op_sub fun _ _ _ _ _ => .int _
theorem od_mul : OD X (binaryOp .Mult) gMul := od_i2 op_mulW (fun i j h => (of_decide_eq_true h : i.natAbs.log2 + j.natAbs.log2 < 1000000)) fun _ _ _ _ _ => .int _
theorem op_fdivX : OpR X (binaryOp .FloorDiv) (rI (fun _ j => j ≠ 0 ∧ j.natAbs.log2 < 9000) fun i j => .int (i.fdiv j)) := opI fun i j _ _ _ _ _ hc q =>
  floordiv_int hc.1 q (.inl (PyProof.noPylong_of_log2 hc.2))
theorem od_div : OD X (binaryOp .FloorDiv) gDiv := od_i2 op_fdivX (fun _ _ h => of_decide_eq_true h) fun _ _ _ _ _ => .int _
theorem od_mod : OD X (binaryOp .Mod) gMod := od_i2 op_mod (fun _ _ h => of_decide_eq_true h) fun _ _ _ _ _ => .int _
theorem od_pow : OD X (binaryOp .Pow) gPow := od_i2 op_pow (fun i j h => (of_decide_eq_true h : 0 ≤ j ∧ j ≤ 1000000 ∧ i.natAbs < 2 ^ 64)) fun _ _ _ _ _ => .int _
abbrev gLt : D2 := gI0 fun i j => .bl (decide (i < j))
abbrev gLe : D2 := gI0 fun i j => .bl (decide (i ≤ j))
abbrev gGt : D2 := gI0 fun i j => .bl (decide (j < i))
abbrev gGe : D2 := gI0 fun i j => .bl (decide (j ≤ i))
theorem od_lt : OD X (compareOp .Lt) gLt := od_i0 op_lt fun _ _ _ _ _ => .bl _
theorem od_le : OD X (compareOp .LtE) gLe := od_i0 op_le fun _ _ _ _ _ => .bl _
theorem od_gt : OD X (compareOp .Gt) gGt := od_i0 op_gt fun _ _ _ _ _ => .bl _
theorem od_ge : OD X (compareOp .GtE) gGe := od_i0 op_ge fun _ _ _ _ _ => .bl _
def gAddS : D2 := fun x y m => match x with
  | .str a => match y with
    | .str b => if a.length + b.length ≤ sizeLine then .ok (.str (a ++ b)) m else .stuck
    | _ => .stuck
  | _ => .stuck
theorem od_addS : OD X (binaryOp .Add) gAddS := by
  refine od_of op_add_str fun S m x y vx vy Q W sa rx ry p => ?_
  unfold gAddS at p
  cases rx with
  | str i =>
    cases ry with
    | str j =>
      dsimp only at p
      split at p
      · rename_i hc
        exact ⟨i, j, rfl, rfl, hc, Post.ok p (Stp.refl S) sa (.str _)⟩
      · exact p.elim
    | _ => exact p.elim
  | _ => exact p.elim
def gIsN : D2 := fun x y m => match y with
  | .non => match x with
    | .non => .ok (.bl true) m
    | .val _ => .stuck
    | _ => .ok (.bl false) m
  | _ => .stuck
def gNotN : D2 := fun x y m => match y with
  | .non => match x with
    | .non => .ok (.bl false) m
    | .val _ => .stuck
    | _ => .ok (.bl true) m
  | _ => .stuck
theorem od_isN : OD X (compareOp .Is) gIsN := by
  refine od_of op_isN fun S m x y vx vy Q W sa rx ry p => ?_
  unfold gIsN at p
  cases ry with
  | non =>
    refine ⟨rfl, ?_⟩
    cases rx with
    | val v => exact p.elim
    | non => exact Post.ok p (Stp.refl S) sa (.bl true)
    | _ => exact Post.ok p (Stp.refl S) sa (.bl false)
  | _ => exact p.elim
theorem od_notN : OD X (compareOp .IsNot) gNotN := by
  refine od_of op_notN fun S m x y vx vy Q W sa rx ry p => ?_
  unfold gNotN at p
  cases ry with
  | non =>
    refine ⟨rfl, ?_⟩
    cases rx with
    | val v => exact p.elim
    | non => exact Post.ok p (Stp.refl S) sa (.bl false)
    | _ => exact Post.ok p (Stp.refl S) sa (.bl true)
  | _ => exact p.elim
mutual
def toPy : D → Option PyData
  | .non => some .none
  | .bl b => some (.bool b)
  | .int i => some (.int i)
  | .str x => some (.str x)
  | .lst ds => (toPys ds).map .list
  | .tup ds => (toPys ds).map .tuple
  | _ => none
def toPys : List D → Option (List PyData)
  | [] => some []
  | d :: ds => match toPy d with
    | some p => match toPys ds with
      | some ps => some (p :: ps)
      | none => none
    | none => none
end
mutual
theorem toPy_ok {K : PySem.W.Frag} {S : Wd} {m : Mu} (sa : Sta K S m) : ∀ (d : D) {v : V} {p : PyData}, Rep K S.i S.F d v → toPy d = some p → Dp K S.H v p
  | .non, _, _, r, h => by cases r; cases h; exact .non
  | .bl b, _, _, r, h => by cases r; cases h; exact .bl _
  | .int b, _, _, r, h => by cases r; cases h; exact .int _
  | .str b, _, _, r, h => by cases r; cases h; exact .str _
  | .lst ds, _, _, r, h => by
    cases r with
    | lst h1 h2 =>
      unfold toPy at h
      cases q : toPys ds with
      | none => rw [q] at h; cases h
      | some ps => rw [q] at h; cases h; exact .lst (SqL.ext' h1 sa.sub) (toPys_ok sa ds h2 q)
  | .tup ds, _, _, r, h => by
    cases r with
    | tup h1 h2 =>
      unfold toPy at h
      cases q : toPys ds with
      | none => rw [q] at h; cases h
      | some ps => rw [q] at h; cases h; exact .tup (SqT.ext' h1 sa.sub) (toPys_ok sa ds h2 q)
  | .obj _ _, _, _, r, h => by unfold toPy at h; cases h
  | .loc _, _, _, r, h => by unfold toPy at h; cases h
  | .val _, _, _, r, h => by unfold toPy at h; cases h
theorem toPys_ok {K : PySem.W.Frag} {S : Wd} {m : Mu} (sa : Sta K S m) : ∀ (ds : List D) {vs : List V} {ps : List PyData}, Reps K S.i S.F ds vs → toPys ds = some ps → DpAll K S.H vs ps
  | [], _, _, r, h => by cases r; cases h; exact .nil
  | d :: ds, _, _, r, h => by
    cases r with
    | cons h1 h2 =>
      unfold toPys at h
      cases q : toPy d with
      | none => rw [q] at h; cases h
      | some p =>
        cases q2 : toPys ds with
        | none => rw [q, q2] at h; cases h
        | some ps => rw [q, q2] at h; cases h; exact .cons (toPy_ok sa d h1 q) (toPys_ok sa ds h2 q2)
end
def thaw1 (m : Mu) (d : D) : D := match seqL m d with
  | some ds => .lst ds
  | none => d
def pyOf (m : Mu) (d : D) : Option PyData := toPy (thaw1 m d)
theorem pyOf_ok {K : PySem.W.Frag} {S : Wd} {m : Mu} {d : D} {v : V} {p : PyData} (sa : Sta K S m) (r : Rep K S.i S.F d v) (h : pyOf m d = some p) : Dp K S.H v p := by
  unfold pyOf thaw1 at h
  cases q : seqL m d with
  | none => rw [q] at h; exact toPy_ok sa d r h
  | some ds =>
    rw [q] at h
    obtain ⟨a, xs, rfl, h1, h2⟩ := seqL_ok sa r q
    dsimp only at h
    unfold toPy at h
    cases q2 : toPys ds with
    | none => rw [q2] at h; cases h
    | some ps => rw [q2] at h; cases h; exact .lst h1 (toPys_ok sa ds h2 q2)
def gEqD (neg : Bool) : D2 := fun x y m => match pyOf m x, pyOf m y with
  | some d, some e => if SeqAt.shaped d && SeqAt.shaped e then .ok (.bl (neg ^^ PyData.eqv d e)) m else .stuck
  | _, _ => .stuck
theorem od_eqD (hu : X.A.units + 64 < cLine) : OD X (compareOp .Eq) (gEqD false) := by
  refine od_of (op_eqD hu) fun S m x y vx vy Q W sa rx ry p => ?_
  unfold gEqD at p
  split at p
  · rename_i d e e1 e2
    split at p
    · rename_i hs
      obtain ⟨h1, h2⟩ := Bool.and_eq_true_iff.mp hs
      refine ⟨d, e, pyOf_ok sa rx e1, pyOf_ok sa ry e2, h1, h2, ?_⟩
      rw [Bool.false_xor] at p
      exact Post.ok p (Stp.refl S) sa (.bl _)
    · exact p.elim
  · exact p.elim
theorem od_neD (hu : X.A.units + 64 < cLine) : OD X (compareOp .NotEq) (gEqD true) := by
  refine od_of (op_neD hu) fun S m x y vx vy Q W sa rx ry p => ?_
  unfold gEqD at p
  split at p
  · rename_i d e e1 e2
    split at p
    · rename_i hs
      obtain ⟨h1, h2⟩ := Bool.and_eq_true_iff.mp hs
      refine ⟨d, e, pyOf_ok sa rx e1, pyOf_ok sa ry e2, h1, h2, ?_⟩
      rw [Bool.true_xor] at p
      exact Post.ok p (Stp.refl S) sa (.bl _)
    · exact p.elim
  · exact p.elim
def scEq : D → D → Option Bool
  | .non, .non => some true
  | .int i, .int j => some (decide (i = j))
  | .bl i, .bl j => some (i == j)
  | .str i, .str j => some (decide (i = j))
  | .non, .int _ => some false
  | .int _, .non => some false
  | .non, .bl _ => some false
  | .bl _, .non => some false
  | .non, .str _ => some false
  | .str _, .non => some false
  | .int _, .str _ => some false
  | .str _, .int _ => some false
  | .bl _, .str _ => some false
  | .str _, .bl _ => some false
  | _, _ => none
theorem scEq_ok {K : PySem.W.Frag} {i : List Addr} {F : Hp} {x y : D} {vx vy : V} {b : Bool} (rx : Rep K i F x vx) (ry : Rep K i F y vy) (h : scEq x y = some b) : scal vx vy = true ∧ decide (vx = vy) = b := by
  cases rx <;> cases ry <;> first
    | (cases h; exact ⟨rfl, rfl⟩)
    | (cases h; refine ⟨rfl, ?_⟩; first | exact dec_bl | simp)
    | (simp [scEq] at h)
def gEqS (neg : Bool) : D2 := fun x y m => match scEq x y with
  | some b => .ok (.bl (neg ^^ b)) m
  | none => .stuck
theorem od_eqS : OD X (compareOp .Eq) (gEqS false) := by
  refine od_of op_eq fun S m x y vx vy Q W sa rx ry p => ?_
  unfold gEqS at p
  split at p
  · rename_i b e
    obtain ⟨h1, h2⟩ := scEq_ok rx ry e
    refine ⟨h1, ?_⟩
    rw [h2]
    rw [Bool.false_xor] at p
    exact Post.ok p (Stp.refl S) sa (.bl _)
  · exact p.elim
theorem od_neS : OD X (compareOp .NotEq) (gEqS true) := by
  refine od_of op_ne fun S m x y vx vy Q W sa rx ry p => ?_
  unfold gEqS at p
  split at p
  · rename_i b e
    obtain ⟨h1, h2⟩ := scEq_ok rx ry e
    refine ⟨h1, ?_⟩
    rw [h2]
    rw [Bool.true_xor] at p
    exact Post.ok p (Stp.refl S) sa (.bl _)
  · exact p.elim
def gEq : D2 := orD (gEqS false) (gEqD false)
def gNe : D2 := orD (gEqS true) (gEqD true)
theorem od_eq (hu : X.A.units + 64 < cLine) : OD X (compareOp .Eq) gEq := od_or od_eqS (od_eqD hu)
theorem od_ne (hu : X.A.units + 64 < cLine) : OD X (compareOp .NotEq) gNe := od_or od_neS (od_neD hu)
def toV : D → Option V
  | .non => some .non
  | .bl b => some (.bl b)
  | .int b => some (.int b)
  | .str b => some (.str b)
  | _ => none
def toVs : List D → Option (List V)
  | [] => some []
  | d :: ds => match toV d with
    | some v => match toVs ds with
      | some vs => some (v :: vs)
      | none => none
    | none => none
theorem toV_ok {K : PySem.W.Frag} {i : List Addr} {F : Hp} {x : D} {vx v : V} (rx : Rep K i F x vx) (h : toV x = some v) : vx = v ∧ flatV v = true := by
  cases rx <;> first | (cases h; exact ⟨rfl, rfl⟩) | (simp [toV] at h)
theorem toVs_ok {K : PySem.W.Frag} {i : List Addr} {F : Hp} : ∀ {xs : List D} {vx vs : List V}, Reps K i F xs vx → toVs xs = some vs → vx = vs ∧ vs.all flatV = true
  | [], _, _, r, h => by cases r; cases h; exact ⟨rfl, rfl⟩
  | d :: ds, _, _, r, h => by
    cases r with
    | cons h1 h2 =>
      unfold toVs at h
      cases q : toV d with
      | none => rw [q] at h; cases h
      | some p =>
        cases q2 : toVs ds with
        | none => rw [q, q2] at h; cases h
        | some ps =>
          rw [q, q2] at h; cases h
          obtain ⟨e1, e2⟩ := toV_ok h1 q
          obtain ⟨e3, e4⟩ := toVs_ok h2 q2
          subst e1 e3
          exact ⟨rfl, by rw [List.all_cons, e2, e4]; rfl⟩
def seqA (m : Mu) (d : D) : Option (List D) := match seqL m d with
  | some ds => some ds
  | none => seqT d
theorem seqA_ok {K : PySem.W.Frag} {S : Wd} {m : Mu} {d : D} {v : V} {ds : List D} (sa : Sta K S m) (r : Rep K S.i S.F d v) (h : seqA m d = some ds) : ∃ a xs, v = .ref a ∧ (SqL K S.H a xs ∨ SqT K S.H a xs) ∧ Reps K S.i S.F ds xs := by
  unfold seqA at h
  split at h
  · rename_i e
    cases h
    obtain ⟨a, xs, h1, h2, h3⟩ := seqL_ok sa r e
    exact ⟨a, xs, h1, .inl h2, h3⟩
  · obtain ⟨a, xs, h1, h2, h3⟩ := seqT_ok sa r h
    exact ⟨a, xs, h1, .inr h2, h3⟩
def gInQ (neg : Bool) : D2 := fun x y m => match toV x, (seqA m y).bind toVs with
  | some v, some vs => .ok (.bl (neg ^^ inV v vs)) m
  | _, _ => .stuck
theorem gInQ_ok {neg : Bool} {K : PySem.W.Frag} {S : Wd} {m : Mu} {x y : D} {vx vy : V} {Q : VK} {W : XK} (sa : Sta K S m) (rx : Rep K S.i S.F x vx) (ry : Rep K S.i S.F y vy) (p : PostD K S (gInQ neg x y m) Q W) : rIn K neg vx vy S.H Q := by
  unfold gInQ at p
  split at p
  · rename_i v vs e1 e2
    obtain ⟨h1, h2⟩ := toV_ok rx e1
    subst h1
    cases q : seqA m y with
    | none => rw [q] at e2; cases e2
    | some ds =>
      rw [q] at e2
      obtain ⟨a, xs, h3, h4, h5⟩ := seqA_ok sa ry q
      obtain ⟨h6, h7⟩ := toVs_ok h5 e2
      subst h6
      refine ⟨a, xs, h3, h4, h2, h7, ?_⟩
      cases neg with
      | false => rw [Bool.false_xor] at p; exact Post.ok p (Stp.refl S) sa (.bl _)
      | true => rw [Bool.true_xor] at p; exact Post.ok p (Stp.refl S) sa (.bl _)
  · exact p.elim
theorem od_inQ : OD X (compareOp .In) (gInQ false) := od_of op_in_seq fun S m x y vx vy Q W sa rx ry p => gInQ_ok sa rx ry p
theorem od_notInQ : OD X (compareOp .NotIn) (gInQ true) := od_of op_notIn_seq fun S m x y vx vy Q W sa rx ry p => gInQ_ok sa rx ry p
def occurs (i j : Str) : Bool := !(Builtin.Str.occurrences j i 0 j.length 1).isEmpty
def gInS (neg : Bool) : D2 := fun x y m => match x with
  | .str a => match y with
    | .str b => .ok (.bl (neg ^^ occurs a b)) m
    | _ => .stuck
  | _ => .stuck
theorem od_inS : OD X (compareOp .In) (gInS false) := by
  refine od_of op_in_str fun S m x y vx vy Q W sa rx ry p => ?_
  unfold gInS at p
  cases rx with
  | str i =>
    cases ry with
    | str j =>
      dsimp only at p
      rw [Bool.false_xor] at p
      exact ⟨i, j, rfl, rfl, Post.ok p (Stp.refl S) sa (.bl _)⟩
    | _ => exact p.elim
  | _ => exact p.elim
theorem od_notInS : OD X (compareOp .NotIn) (gInS true) := by
  refine od_of op_notin_str fun S m x y vx vy Q W sa rx ry p => ?_
  unfold gInS at p
  cases rx with
  | str i =>
    cases ry with
    | str j =>
      dsimp only at p
      rw [Bool.true_xor] at p
      exact ⟨i, j, rfl, rfl, Post.ok p (Stp.refl S) sa (.bl _)⟩
    | _ => exact p.elim
  | _ => exact p.elim
abbrev gIn : D2 := orD (gInS false) (gInQ false)
abbrev gNotIn : D2 := orD (gInS true) (gInQ true)
theorem od_in : OD X (compareOp .In) gIn := od_or od_inS od_inQ
theorem od_notIn : OD X (compareOp .NotIn) gNotIn := od_or od_notInS od_notInQ
def OC (X : Cx) (f : Value) (g : DFn) : Prop :=
  ∀ (pins : List (Addr × Obj)) (s : Shared) (σ : L2.St) (S : Wd) (m : Mu) (ds : List D) (xs : List V) (us : List Value) (Q : VK), Sta X.K S m → Reps X.K S.i S.F ds xs → Vals xs us → Inv X pins σ S.H s →
    PostD X.K S (g ds m) Q (fun c d H => Fly X c d σ H) → wpAny (model X.prog X.w) X.A (call f us) (EP X pins σ Q) X.xe s
theorem oc_of {f : Value} {g : DFn} {r : List V → Hp → VK → Prop} (ho : CallR X f r) (k : ∀ (S : Wd) (m : Mu) (ds : List D) (xs : List V) (Q : VK) (W : XK), Sta X.K S m → Reps X.K S.i S.F ds xs → PostD X.K S (g ds m) Q W → r xs S.H Q) : OC X f g :=
  fun pins s σ S m ds xs us Q sa rs rv I p => ho pins s σ S.H xs us Q I rv (k S m ds xs Q _ sa rs p)
def orF (f g : DFn) : DFn := fun ds m => match f ds m with
  | .stuck => g ds m
  | r => r
variable {x : Str} {p pos : Pos} {e : Expr} {es : List Expr} {t : DA} {id T : String} {g : DFn}
theorem pd_bc (ho : OC X (.builtin id) g) (hm : X.mg x = none) (hv : bootBuiltins x = some (.builtin id)) (ha : PDA X (e :: es) t) (hg : Gl X x := by rfl) (hn : x ≠ "__name__" := by decide) (hdb : (x == ("__debug__" : Str)) = false := by decide)
    (he : starEach (e :: es) X.env = (false, eval e X.env) :: starEach es X.env := by exact se_cons _ _ _ rfl) (hpl : (backTo pos (starEach es X.env)).any (·.1) = false := by exact se_any _ _ _ rfl) : PDE X (.Call (.Name x p) (e :: es) [] pos) (dFun g t) := by
  intro S r m σ Q sa re q pins s I
  refine wpAny_Call_Name_kw (ld_blt I hg hm hv ?_ hn hdb)
  refine PyProof.Rows.callWith_builtin1 (thn (ha.run sa re q I pos) ?_) he hpl
  rintro us s1 ⟨xs, ds, m1, T, st, sa1, rds, rv, I1, q1⟩
  exact ho pins s1 σ T m1 ds xs us Q sa1 rds rv I1 q1
theorem pd_bt (ho : OC X (.type T) g) (hm : X.mg x = none) (hv : bootBuiltins x = some (.type T)) (ha : PDA X (e :: es) t) (hg : Gl X x := by rfl) (hn : x ≠ "__name__" := by decide) (hdb : (x == ("__debug__" : Str)) = false := by decide)
    (he : starEach (e :: es) X.env = (false, eval e X.env) :: starEach es X.env := by exact se_cons _ _ _ rfl) (hpl : (backTo pos (starEach es X.env)).any (·.1) = false := by exact se_any _ _ _ rfl) : PDE X (.Call (.Name x p) (e :: es) [] pos) (dFun g t) := by
  intro S r m σ Q sa re q pins s I
  refine wpAny_Call_Name_kw (ld_blt I hg hm hv ?_ hn hdb)
  refine PyProof.Rows.callWith_type1 (thn (ha.run sa re q I pos) ?_) he hpl
  rintro us s1 ⟨xs, ds, m1, T, st, sa1, rds, rv, I1, q1⟩
  exact ho pins s1 σ T m1 ds xs us Q sa1 rds rv I1 q1
theorem reps1 {K : PySem.W.Frag} {i : List Addr} {F : Hp} {d : D} {xs : List V} (r : Reps K i F [d] xs) : ∃ v, xs = [v] ∧ Rep K i F d v := by
  cases r with
  | cons h r => cases r; exact ⟨_, rfl, h⟩
theorem reps2 {K : PySem.W.Frag} {i : List Addr} {F : Hp} {d e : D} {xs : List V} (r : Reps K i F [d, e] xs) : ∃ v w, xs = [v, w] ∧ Rep K i F d v ∧ Rep K i F e w := by
  cases r with
  | cons h r => obtain ⟨w, rfl, h2⟩ := reps1 r; exact ⟨_, w, rfl, h, h2⟩
def gAbs : DFn := fun ds m => match ds with
  | [.int i] => .ok (.int (if i < 0 then -i else i)) m
  | _ => .stuck
theorem oc_abs : OC X (.builtin "abs") gAbs := by
  refine oc_of call_abs fun S m ds xs Q W sa rs p => ?_
  unfold gAbs at p
  split at p
  · obtain ⟨v, rfl, r⟩ := reps1 rs
    cases r
    exact ⟨_, rfl, Post.ok p (Stp.refl S) sa (.int _)⟩
  · exact p.elim
def gInt : DFn := fun ds m => match ds with
  | [.int i] => .ok (.int i) m
  | [.bl b] => .ok (.int (if b then 1 else 0)) m
  | _ => .stuck
theorem oc_int : OC X (.type "int") gInt := by
  refine oc_of call_int1 fun S m ds xs Q W sa rs p => ?_
  unfold gInt at p
  split at p
  · obtain ⟨v, rfl, r⟩ := reps1 rs
    cases r
    exact .inl ⟨_, rfl, Post.ok p (Stp.refl S) sa (.int _)⟩
  · obtain ⟨v, rfl, r⟩ := reps1 rs
    cases r
    exact .inr ⟨_, rfl, Post.ok p (Stp.refl S) sa (.int _)⟩
  · exact p.elim
def gBool : DFn := fun ds m => match ds with
  | [.int i] => .ok (.bl (i != 0)) m
  | [.bl b] => .ok (.bl b) m
  | _ => .stuck
theorem oc_bool : OC X (.type "bool") gBool := by
  refine oc_of call_bool1 fun S m ds xs Q W sa rs p => ?_
  unfold gBool at p
  split at p
  · obtain ⟨v, rfl, r⟩ := reps1 rs
    cases r
    exact .inl ⟨_, rfl, Post.ok p (Stp.refl S) sa (.bl _)⟩
  · obtain ⟨v, rfl, r⟩ := reps1 rs
    cases r
    exact .inr ⟨_, rfl, Post.ok p (Stp.refl S) sa (.bl _)⟩
  · exact p.elim
def gMin2 : DFn := fun ds m => match ds with
  | [.int i, .int j] => .ok (.int (if j < i then j else i)) m
  | _ => .stuck
def gMax2 : DFn := fun ds m => match ds with
  | [.int i, .int j] => .ok (.int (if j > i then j else i)) m
  | _ => .stuck
def gStrI : DFn := fun ds m => match ds with
  | [.int i] => if i.natAbs.log2 < 1920 then .ok (.str (toString i)) m else .stuck
  | _ => .stuck
def gLen : DFn := fun ds m => match ds with
  | [.str x] => if x.length ≤ sizeLine then .ok (.int x.length) m else .stuck
  | [d] => match seqA m d with
    | some ds => .ok (.int ds.length) m
    | none => .stuck
  | _ => .stuck
theorem oc_len : OC X (.builtin "len") gLen := by
  refine oc_of (call_len_str.or call_len_seq) fun S m ds xs Q W sa rs p => ?_
  unfold gLen at p
  split at p
  · split at p
    · rename_i h
      obtain ⟨v, rfl, r⟩ := reps1 rs
      cases r
      exact .inl ⟨_, rfl, h, Post.ok p (Stp.refl S) sa (.int _)⟩
    · exact p.elim
  · split at p
    · rename_i ds' e
      obtain ⟨v, rfl, r⟩ := reps1 rs
      obtain ⟨a, ys, rfl, h1, h2⟩ := seqA_ok sa r e
      refine .inr ⟨a, ys, rfl, h1, ?_⟩
      rw [h2.len] at p
      exact Post.ok p (Stp.refl S) sa (.int _)
    · exact p.elim
  · exact p.elim
def gList : DFn := fun ds m => match ds with
  | [d] => match seqA m d with
    | some es => .ok (.lst es) m
    | none => .stuck
  | _ => .stuck
theorem oc_list : OC X (.type "list") gList := by
  refine oc_of call_list_of fun S m ds xs Q W sa rs p => ?_
  unfold gList at p
  split at p
  · split at p
    · rename_i es e
      obtain ⟨v, rfl, r⟩ := reps1 rs
      obtain ⟨a, ys, rfl, h1, h2⟩ := seqA_ok sa r e
      refine ⟨a, ys, rfl, h1, fun l hl => ?_⟩
      have st := Stp.new sa (o := .lst ys) hl
      exact p (.ref l) (S.new l (.lst ys)) st (sa.new hl) (.lst (.inl (.inl upd_same)) (h2.stp st))
    · exact p.elim
  · exact p.elim
def gListM : DFn := fun ds m => match ds with
  | [d] => match seqA m d with
    | some es => .ok (.loc m.length) (m ++ [.lst es])
    | none => .stuck
  | _ => .stuck
def toBs : List D → Option (List Bool)
  | [] => some []
  | .bl b :: ds => match toBs ds with
    | some bs => some (b :: bs)
    | none => none
  | _ => none
theorem toBs_ok {K : PySem.W.Frag} {i : List Addr} {F : Hp} : ∀ {ds : List D} {xs : List V} {bs : List Bool}, Reps K i F ds xs → toBs ds = some bs → xs = bs.map V.bl
  | [], _, _, r, h => by cases r; cases h; rfl
  | d :: ds, _, _, r, h => by
    cases r with
    | cons h1 h2 =>
      cases h1 with
      | bl b =>
        unfold toBs at h
        cases q : toBs ds with
        | none => rw [q] at h; cases h
        | some bs => rw [q] at h; cases h; rw [toBs_ok h2 q]; rfl
      | _ => simp [toBs] at h
def gAll : DFn := fun ds m => match ds with
  | [d] => match (seqL m d).bind toBs with
    | some bs => .ok (.bl (bs.all _root_.id)) m
    | none => .stuck
  | _ => .stuck
def gAny : DFn := fun ds m => match ds with
  | [d] => match (seqL m d).bind toBs with
    | some bs => .ok (.bl (bs.any _root_.id)) m
    | none => .stuck
  | _ => .stuck
theorem oc_all (hc : X.calm = true) : OC X (.builtin "all") gAll := by
  refine oc_of (cr_all hc) fun S m ds xs Q W sa rs p => ?_
  unfold gAll at p
  split at p
  · rename_i d
    cases q : seqL m d with
    | none => rw [q] at p; exact (show False from p).elim
    | some es =>
      rw [q] at p
      cases q2 : toBs es with
      | none => rw [show (some es).bind toBs = toBs es from rfl, q2] at p; exact (show False from p).elim
      | some bs =>
        rw [show (some es).bind toBs = toBs es from rfl, q2] at p
        obtain ⟨v, rfl, r⟩ := reps1 rs
        obtain ⟨a, ys, rfl, h1, h2⟩ := seqL_ok sa r q
        have := toBs_ok h2 q2
        subst this
        exact ⟨a, bs, rfl, h1, Post.ok p (Stp.refl S) sa (.bl _)⟩
  · exact p.elim
theorem oc_any (hc : X.calm = true) : OC X (.builtin "any") gAny := by
  refine oc_of (cr_any hc) fun S m ds xs Q W sa rs p => ?_
  unfold gAny at p
  split at p
  · rename_i d
    cases q : seqL m d with
    | none => rw [q] at p; exact (show False from p).elim
    | some es =>
      rw [q] at p
      cases q2 : toBs es with
      | none => rw [show (some es).bind toBs = toBs es from rfl, q2] at p; exact (show False from p).elim
      | some bs =>
        rw [show (some es).bind toBs = toBs es from rfl, q2] at p
        obtain ⟨v, rfl, r⟩ := reps1 rs
        obtain ⟨a, ys, rfl, h1, h2⟩ := seqL_ok sa r q
        have := toBs_ok h2 q2
        subst this
        exact ⟨a, bs, rfl, h1, Post.ok p (Stp.refl S) sa (.bl _)⟩
  · exact p.elim
def toIs : List D → Option (List Int)
  | [] => some []
  | .int b :: ds => match toIs ds with
    | some bs => some (b :: bs)
    | none => none
  | _ => none
def minI : List Int → Int
  | [] => 0
  | x :: xs => xs.foldl min x
def maxI : List Int → Int
  | [] => 0
  | x :: xs => xs.foldl max x
end
end DL

namespace DL
open PySem PySem.Spec PyProof.Rows L2
variable [LamTab]
section
variable {X : Cx}
def gIx : D2 := fun x i m => match i with
  | .int i => match x with
    | .str z => if z.length ≤ sizeLine then (match atI z.cps.toList i with
      | some c => .ok (.str ⟨#[c]⟩) m
      | none => .stuck) else .stuck
    | x => match seqA m x with
      | some ds => match atI ds i with
        | some d => .ok d m
        | none => .stuck
      | none => .stuck
  | _ => .stuck
theorem atI_reps {K : PySem.W.Frag} {ι : List Addr} {F : Hp} {ds : List D} {xs : List V} {i : Int} {d : D} (r : Reps K ι F ds xs) (h : atI ds i = some d) : ∃ v, atI xs i = some v ∧ Rep K ι F d v := by
  unfold atI at h ⊢
  rw [← r.len]
  cases q : ixN ds.length i with
  | none => rw [q] at h; cases h
  | some j => rw [q] at h; exact r.get h
variable {a b e : Expr} {es : List Expr} {ta tb : DE} {t : DA} {pos : Pos}
theorem pd_ix (ha : PDE X a ta) (hb : PDE X b tb) (hs : PlainIx b := by exact fun _ _ => rfl) : PDE X (.Subscript a b pos) (dBin gIx ta tb) := by
  intro S r m σ Q sa re p pins s I
  refine Subscript_ (thn (ha.run sa re p I) ?_)
  rintro v s1 ⟨x, d, m1, T, st, sa1, rd, r1, I1, q⟩
  refine thn (hb.run sa1 (re.stp st) q I1) ?_
  rintro u s2 ⟨y, d', m2, U, st2, sa2, rd2, r2, I2, q2⟩
  refine ix_seq a b pins s2 σ U.H x y v u Q I2 r1 r2 ?_ (hs _ _)
  unfold gIx at q2
  split at q2
  · cases rd2
    split at q2
    · cases (rd.stp st2)
      split at q2
      · rename_i hz
        split at q2
        · rename_i c ec
          exact .inr (.inr ⟨_, _, c, rfl, rfl, hz, ec, Post.ok q2 (Stp.refl U) sa2 (.str _)⟩)
        · exact q2.elim
      · exact q2.elim
    · split at q2
      · rename_i ds e1
        split at q2
        · rename_i dd e2
          obtain ⟨p, xs, rfl, h1, h2⟩ := seqA_ok sa2 (rd.stp st2) e1
          obtain ⟨vv, h3, h4⟩ := atI_reps h2 e2
          rcases h1 with h1 | h1
          · exact .inl ⟨p, xs, _, vv, rfl, rfl, h1, h3, Post.ok q2 (Stp.refl U) sa2 h4⟩
          · exact .inr (.inl ⟨p, xs, _, vv, rfl, rfl, h1, h3, Post.ok q2 (Stp.refl U) sa2 h4⟩)
        · exact q2.elim
      · exact q2.elim
  · exact q2.elim
abbrev DO := En → Mu → Res (Option Int)
abbrev RO : Wd → Option Int → Option Int → Prop := fun _ a b => a = b
def PDO (X : Cx) (e : Option Expr) (t : DO) : Prop := ∃ u : TO, PO X e u ∧ ∀ S r m σ Q, Sta X.K S m → RelE X.K S r σ → Post RO X.K S (t r m) Q (fun c d H => Fly X c d σ H) → u σ S.H Q
def dNoPart : DO := fun _ m => .ok none m
def dPart (t : DE) : DO := fun e m => (t e m).bind fun d m1 => match d with
  | .int i => .ok (some i) m1
  | _ => .stuck
theorem pdo_none : PDO X none dNoPart := ⟨_, po_none, fun S r m σ Q sa re p => Post.ok p (Stp.refl S) sa rfl⟩
theorem pdo_some (h : PDE X e ta) : PDO X (some e) (dPart ta) := ⟨_, po_some (mxE X e), fun S r m σ Q sa re p => by
  refine h S r m σ _ sa re (Post.bindI p fun d m1 v T st sa1 rd q => ?_)
  cases rd with
  | int i => exact ⟨i, rfl, Post.ok q (Stp.refl T) sa1 rfl⟩
  | _ => exact q.elim⟩
def cutD (xs : List D) (lo hi : Option Int) : List D := (xs.drop (HT.sIx xs.length 0 lo)).take (HT.sIx xs.length xs.length hi - HT.sIx xs.length 0 lo)
theorem cut_reps {K : PySem.W.Frag} {ι : List Addr} {F : Hp} {ds : List D} {xs : List V} (r : Reps K ι F ds xs) (lo hi : Option Int) : Reps K ι F (cutD ds lo hi) (cutV xs lo hi) := by
  unfold cutD cutV
  rw [r.len]
  exact (r.drop _).take _
def dSl (t : DE) (lo hi : DO) : DE := fun e m => (t e m).bind fun d m1 => (lo e m1).bind fun l m2 => (hi e m2).bind fun h m3 => match seqL m3 d with
  | some ds => .ok (.lst (cutD ds l h)) m3
  | none => .stuck
theorem pd_sl {lo hi : Option Expr} {tl th : DO} {p2 : Pos} (ha : PDE X a ta) (hl : PDO X lo tl) (hh : PDO X hi th) : PDE X (.Subscript a (.Slice lo hi none p2) pos) (dSl ta tl th) := by
  obtain ⟨ul, hl1, hl2⟩ := hl
  obtain ⟨uh, hh1, hh2⟩ := hh
  refine pd_of (pe_slice sl_list (mxE X a) hl1 hh1) fun S r m σ Q sa re p => ?_
  refine ha S r m σ _ sa re (Post.bindI p fun d m1 v T st sa1 rd q => ?_)
  refine hl2 T r m1 σ _ sa1 (re.stp st) (Post.bindI q fun l m2 l' U st2 sa2 rl q2 => ?_)
  have rl : l = l' := rl
  subst rl
  refine hh2 U r m2 σ _ sa2 ((re.stp st).stp st2) (Post.bindI q2 fun h m3 h' Y st3 sa3 rh q3 => ?_)
  have rh : h = h' := rh
  subst rh
  split at q3
  · rename_i ds e1
    obtain ⟨p, xs, rfl, h1, h2⟩ := seqL_ok sa3 ((rd.stp st2).stp st3) e1
    refine ⟨p, xs, rfl, h1, fun n hn => ?_⟩
    have st4 := Stp.new sa3 (o := .lst (cutV xs l h)) hn
    exact q3 (.ref n) (Y.new n (.lst (cutV xs l h))) st4 (sa3.new hn) (.lst (.inl (.inl upd_same)) ((cut_reps h2 l h).stp st4))
  · exact q3.elim
theorem RelE.start {K : PySem.W.Frag} {S : Wd} {e : En} {σ : L2.St} (r : RelE K S e σ) : RelE K S e σ := r
def dSeq (t u : DS) : DS := fun e m => match t e m with
  | .nx e1 m1 => u e1 m1
  | r => r
def dSkip : DS := fun e m => .nx e m
variable {st : Stmt} {rest sts stt : List Stmt} {u w : DS} {tt : DT}
theorem pds_nil : PDSs X [] dSkip := fun S r m σ N sa re p pins s I => (pss_nil (X := X)).run pins s σ S.H N I (p σ S (Stp.refl S) sa re)
theorem pds_cons (h1 : PDS X st u) (h2 : PDSs X rest w) : PDSs X (st :: rest) (dSeq u w) := by
  intro S r m σ N sa re p pins s I
  refine (pss_cons (mxS X st) (mxSs X rest)).run pins s σ S.H N I ?_
  refine h1 S r m σ _ sa re ?_
  unfold dSeq at p
  cases q : u r m with
  | nx e1 m1 =>
    rw [q] at p
    exact fun σ1 T st1 sa1 re1 => h2 T e1 m1 σ1 N sa1 re1 (PostS.step st1 p)
  | stuck => rw [q] at p; exact p
  | rt d m1 => rw [q] at p; exact p
  | bk e1 m1 => rw [q] at p; exact p
  | ct e1 m1 => rw [q] at p; exact p
  | exc C fs e1 m1 => rw [q] at p; exact p
theorem pds_one (h1 : PDS X st u) : PDSs X [st] u := fun S r m σ N sa re p pins s I => (pss_one (mxS X st)).run pins s σ S.H N I (h1 S r m σ N sa re p)
def rsOf (e : En) (r : Res D) (k : D → Mu → RS) : RS := match r with
  | .stuck => .stuck
  | .ok d m => k d m
  | .exc C fs m => .exc C fs e m
theorem PDE.stm {S : Wd} {e : En} {r : Res D} {k : D → Mu → RS} {N : Ends} {σ : L2.St} (re : RelE X.K S e σ) (p : PostS X.K S (rsOf e r k) N (Fly X)) {Q : VK}
    (h : ∀ d m v T, Stp S T → Sta X.K T m → Rep X.K T.i T.F d v → PostS X.K T (k d m) N (Fly X) → Q v T.H) : PostD X.K S r Q (fun c d H => Fly X c d σ H) := by
  cases r with
  | stuck => exact p
  | ok d m => exact fun v T st sa rd => h d m v T st sa rd (PostS.step (r := k d m) st p)
  | exc C fs m => exact fun dd vs T st hn sa h1 h2 => p dd vs σ T st hn sa (re.stp st) h1 h2
def dRet (t : DE) : DS := fun e m => rsOf e (t e m) fun d m1 => .rt d m1
theorem pds_ret (ha : PDE X a ta) : PDS X (.Return (some a) pos) (dRet ta) :=
  ps_of (ps_ret (mxE X a)) fun S r m σ N sa re p => ha S r m σ _ sa re (PDE.stm re p fun d m1 v T st sa1 rd q => q v T (Stp.refl T) sa1 rd)
def dStuck : DS := fun _ _ => .stuck
theorem pds_stuck : PDS X st dStuck := fun S r m σ N sa re p => p.elim
def dDrop (t : DE) : DS := fun e m => rsOf e (t e m) fun _ m1 => .nx e m1
theorem pds_expr (ha : PDE X a ta) (hs : swapsWith a none pos.line X.env = pure false := by rfl) : PDS X (.Expr a pos) (dDrop ta) :=
  ps_of (ps_expr (mxE X a) hs) fun S r m σ N sa re p => ha S r m σ _ sa re (PDE.stm re p fun d m1 v T st sa1 rd q => q σ T (Stp.refl T) sa1 (re.stp st))
def dSet (i : Nat) (t : DE) : DS := fun e m => rsOf e (t e m) fun d m1 => .nx (e.set i (some d)) m1
theorem pds_set {i : Nat} {x : Str} {pos' : Pos} (ha : PDE X a ta) (hN : X.N.Nodup) (hi : X.N[i]? = some x := by rfl) (hx : Loc X.env.scope x := by first | exact Or.inl rfl | exact Or.inr rfl) (hs : swapsWith a (some (.Name x pos')) pos.line X.env = pure false := by rfl)
    (hf : X.fn x = true ∨ X.env.scope.names.lookup x = some .local := by first | exact .inl rfl | exact .inr rfl | assumption) : PDS X (.Assign [.Name x pos'] a pos) (dSet i ta) :=
  ps_of (ps_set hN hi hx (mxE X a) hs hf) fun S r m σ N sa re p => ha S r m σ _ sa re (PDE.stm re p fun d m1 v T st sa1 rd q => q _ T (Stp.refl T) sa1 ((re.stp st).set i rd))
def rsOfB (e : En) (r : Res Bool) (k : Bool → Mu → RS) : RS := match r with
  | .stuck => .stuck
  | .ok d m => k d m
  | .exc C fs m => .exc C fs e m
theorem PDT.stm {S : Wd} {e : En} {r : Res Bool} {k : Bool → Mu → RS} {N : Ends} {σ : L2.St} (re : RelE X.K S e σ) (p : PostS X.K S (rsOfB e r k) N (Fly X)) {Q : Bool → Hp → Prop}
    (h : ∀ d m T, Stp S T → Sta X.K T m → PostS X.K T (k d m) N (Fly X) → Q d T.H) : PostB X.K S r Q (fun c d H => Fly X c d σ H) := by
  cases r with
  | stuck => exact p
  | ok d m =>
    intro v T st sa rd
    cases (show d = v from rd)
    exact h d m T st sa (PostS.step (r := k d m) st p)
  | exc C fs m => exact fun dd vs T st hn sa h1 h2 => p dd vs σ T st hn sa (re.stp st) h1 h2
def dIfS (t : DT) (u w : DS) : DS := fun e m => rsOfB e (t e m) fun b m1 => if b then u e m1 else w e m1
theorem pds_if {c : Expr} (hc : PDT X c tt) (h1 : PDSs X sts u) (h2 : PDSs X stt w) : PDS X (.If c sts stt pos) (dIfS tt u w) := by
  refine ps_of (ps_if (mxT X c) (mxSs X sts) (mxSs X stt)) fun S r m σ N sa re p => hc S r m σ _ sa re (PDT.stm re p fun d m1 T st sa1 q => ?_)
  cases d with
  | true => exact iteT (h1 T r m1 σ N sa1 (re.stp st) q)
  | false => exact iteF (h2 T r m1 σ N sa1 (re.stp st) q)
abbrev DG := D → En → Option En
def WG (X : Cx) (tg : Expr) : TG := fun v σ H Q => ∀ (pins : List (Addr × Obj)) (s : Shared) (u : Value), Inv X pins σ H s → RelV v u → wpAny (model X.prog X.w) X.A (assign tg X.env u) (fun _ s' => ∃ σ' H', Inv X pins σ' H' s' ∧ Q σ' H') X.xe s
def WGs (X : Cx) (ts : List Expr) : TGs := fun vs σ H Q => ∀ (pins : List (Addr × Obj)) (s : Shared) (us : List Value), Inv X pins σ H s → Vals vs us → wpAny (model X.prog X.w) X.A (assignInOrder ((assignEach ts X.env).map (·.2)) us) (fun _ s' => ∃ σ' H', Inv X pins σ' H' s' ∧ Q σ' H') X.xe s
theorem mxG (X : Cx) (e : Expr) : PG X e (WG X e) := ⟨fun pins s σ H v u Q I r h => h pins s u I r⟩
theorem mxGs (X : Cx) (e : List Expr) : PGs X e (WGs X e) := ⟨fun pins s σ H v u Q I r h => h pins s u I r⟩
def ButSl (sl : List Nat) (σ σ1 : L2.St) : Prop := ∀ vs : List Nat, (∀ i ∈ sl, i ∈ vs) → wipe σ1 vs = wipe σ vs
theorem wipe_set {σ : L2.St} {i : Nat} {x : Option V} : ∀ vs : List Nat, wipe (σ.set i x) vs = if i ∈ vs then wipe σ vs else (wipe σ vs).set i x
  | [] => by simp [wipe]
  | v :: vs => by
    have ih := wipe_set (σ := σ) (i := i) (x := x) vs
    unfold wipe
    rw [ih]
    by_cases hv : i ∈ vs
    · rw [if_pos hv, if_pos (List.mem_cons_of_mem _ hv)]
    · rw [if_neg hv]
      by_cases hi : i = v
      · subst hi
        rw [if_pos List.mem_cons_self, List.set_set]
      · rw [if_neg (by simp [hi, hv]), List.set_comm _ _ hi]
theorem butSl_set (σ : L2.St) (i : Nat) (x : Option V) : ButSl [i] σ (σ.set i x) := fun vs h => by rw [wipe_set, if_pos (h i (by simp))]
def PDG (X : Cx) (tg : Expr) (g : DG) (sl : List Nat) : Prop := ∀ S e m σ d v e1 (Q : L2.St → Hp → Prop), Sta X.K S m → RelE X.K S e σ → Rep X.K S.i S.F d v → g d e = some e1 → (∀ σ1, RelE X.K S e1 σ1 → ButSl sl σ σ1 → Q σ1 S.H) → WG X tg v σ S.H Q
def dName (i : Nat) : DG := fun d e => some (e.set i (some d))
theorem pdg_name (i : Nat) {x : Str} (hN : X.N.Nodup) (hi : X.N[i]? = some x := by rfl) (hx : Loc X.env.scope x := by first | exact Or.inl rfl | exact Or.inr rfl) (hf : X.fn x = true ∨ X.env.scope.names.lookup x = some .local := by first | exact .inl rfl | exact .inr rfl | assumption) : PDG X (.Name x pos) (dName i) [i] :=
  fun S e m σ d v e1 Q sa re rd h q pins s u I r => by
    cases h
    exact (pg_name hN hi hx hf).run pins s σ S.H v u Q I r (q _ (re.set i rd) (butSl_set σ i _))
def PDGs (X : Cx) (ts : List Expr) (g : List D → En → Option En) (sl : List Nat) : Prop := ∀ S e m σ ds vs e1 (Q : L2.St → Hp → Prop), Sta X.K S m → RelE X.K S e σ → Reps X.K S.i S.F ds vs → g ds e = some e1 → (∀ σ1, RelE X.K S e1 σ1 → ButSl sl σ σ1 → Q σ1 S.H) → WGs X ts vs σ S.H Q
def dGnil : List D → En → Option En := fun ds e => match ds with
  | [] => some e
  | _ => none
def dGcons (g : DG) (h : List D → En → Option En) : List D → En → Option En := fun ds e => match ds with
  | d :: r => (g d e).bind fun e1 => h r e1
  | [] => none
theorem pdgs_nil : PDGs X [] dGnil [] := fun S e m σ ds vs e1 Q sa re rd h q pins s us I r => by
  cases rd with
  | nil => cases h; exact (pgs_nil (X := X)).run pins s σ S.H [] us Q I r ⟨rfl, q σ re fun vs _ => rfl⟩
  | cons _ _ => cases h
theorem pdgs_cons {g : DG} {h : List D → En → Option En} {sl sl' : List Nat} (h1 : PDG X a g sl) (h2 : PDGs X es h sl') (hs : (assignEach (a :: es) X.env).map (·.2) = assign a X.env :: (assignEach es X.env).map (·.2) := by rfl) : PDGs X (a :: es) (dGcons g h) (sl ++ sl') := by
  intro S e m σ ds vs e1 Q sa re rd hh q pins s us I r
  cases rd with
  | nil => cases hh
  | @cons d v ds' vs' r1 r2 =>
    have hh : (g d e).bind (fun e1 => h ds' e1) = some e1 := hh
    cases q1 : g d e with
    | none => rw [q1] at hh; cases hh
    | some e2 =>
      rw [q1] at hh
      exact (pgs_cons (mxG X a) (mxGs X es) hs).run pins s σ S.H (v :: vs') us Q I r ⟨v, vs', rfl, h1 S e m σ d v e2 _ sa re r1 q1 fun σ1 re1 b1 => h2 S e2 m σ1 ds' vs' e1 _ sa re1 r2 hh fun σ2 re2 b2 => q σ2 re2 fun vs hv => (b2 vs fun i hi => hv i (List.mem_append_right _ hi)).trans (b1 vs fun i hi => hv i (List.mem_append_left _ hi))⟩
def dTupG (n : Nat) (g : List D → En → Option En) : DG := fun d e => match d with
  | .tup ds => if ds.length = n then g ds e else none
  | _ => none
theorem pdg_tup {n k : Nat} {g : List D → En → Option En} {sl : List Nat} (hc : X.calm = true) (h : PDGs X es g sl) (hn : (assignEach es X.env).length = n := by rfl) (hst : (assignEach es X.env).findIdx? (·.1) = none := by rfl) : PDG X (.Tuple es k pos) (dTupG n g) sl := by
  intro S e m σ d v e1 Q sa re rd hh q pins s u I r
  cases rd with
  | tup h1 h2 =>
    unfold dTupG at hh
    dsimp only at hh
    split at hh
    · rename_i hl
      exact (pg_tup hc (mxGs X es) hn hst).run pins s σ S.H _ u Q I r ⟨_, _, rfl, SqT.ext' h1 sa.sub, by rw [← h2.len]; exact hl, h S e m σ _ _ e1 Q sa re h2 hh q⟩
    · cases hh
  | _ => cases hh
def dAsg (t : DE) (g : DG) : DS := fun e m => rsOf e (t e m) fun d m1 => match g d e with
  | some e1 => .nx e1 m1
  | none => .stuck
theorem pds_asg {tg : Expr} {g : DG} {sl : List Nat} (ha : PDE X a ta) (hg : PDG X tg g sl) (hs : swapsWithSole [tg] a pos.line X.env = pure false := by rfl) (hw : swappedStores [tg] a X.env = pure none := by rfl)
    (h1 : (assignEach [tg] X.env).map (·.2) = [assign tg X.env] := by rfl) : PDS X (.Assign [tg] a pos) (dAsg ta g) := by
  refine ps_of (ps_asg (mxE X a) (mxG X tg) hs hw h1) fun S r m σ N sa re pp => ha S r m σ _ sa re (PDE.stm re pp fun d m1 v T st sa1 rd q => ?_)
  split at q
  · rename_i e1 h
    exact hg T r m1 σ d v e1 N.nx sa1 (re.stp st) rd h fun σ1 re1 _ => q σ1 T (Stp.refl T) sa1 re1
  · exact q.elim
def dPar (i j : Nat) (t : DA) : DS := fun e m => match t e m with
  | .ok [x, y] m1 => .nx ((e.set i (some x)).set j (some y)) m1
  | .exc C fs m1 => .exc C fs e m1
  | _ => .stuck
theorem pds_par {i j : Nat} {x y : Str} {px py pt : Pos} {kt k2 pt2} (ha : PDA X [a, b] t) (hc : X.calm = true) (hN : X.N.Nodup) (hw : swappedStores [.Tuple [.Name x px, .Name y py] kt pt] (.Tuple [a, b] k2 pt2) X.env = pure (some [x, y]) := by rfl) (hi : X.N[i]? = some x := by rfl) (hj : X.N[j]? = some y := by rfl) (hij : i ≠ j := by decide)
    (hx : X.env.scope.names.lookup x = some .local := by rfl) (hy : X.env.scope.names.lookup y = some .local := by rfl)
    (hs : swapsWithSole [.Tuple [.Name x px, .Name y py] kt pt] (.Tuple [a, b] k2 pt2) pos.line X.env = pure false := by rfl) :
    PDS X (.Assign [.Tuple [.Name x px, .Name y py] kt pt] (.Tuple [a, b] k2 pt2) pos) (dPar i j t) := by
  refine ps_of (ps_par hc hN hi hj hij hx hy (mxA X _) hw hs) fun S r m σ N sa re p => ha S r m σ _ sa re ?_
  unfold dPar at p
  cases q : t r m with
  | stuck => rw [q] at p; exact p
  | exc C fs m1 => rw [q] at p; exact fun dd vs T st hn sa1 h1 h2 => p dd vs σ T st hn sa1 (re.stp st) h1 h2
  | ok ds m1 =>
    rw [q] at p
    intro vs T st sa1 rds
    split at p
    · rename_i d1 d2 m2 heq
      cases heq
      obtain ⟨v, w, rfl, r1, r2⟩ := reps2 rds
      exact ⟨v, w, rfl, p _ T st sa1 (((re.stp st).set i r1).set j r2)⟩
    · rename_i heq; cases heq
    · exact p.elim
end
end DL

namespace DL
open PySem PySem.Spec PyProof.Rows L2
variable [LamTab]
def ItOk (K : PySem.W.Frag) (T : Wd) (J : It) (ds : List D) : Prop := ∀ (U : Wd) (m : Mu) (i : Nat), Stp T U → Sta K U m →
  (∀ d, ds[i]? = some d → J.go i U.H ∧ ∀ x H', J.yld i U.H x H' → ∃ Y : Wd, Y.H = H' ∧ Stp U Y ∧ Sta K Y m ∧ Rep K Y.i Y.F d x) ∧ (ds.length ≤ i → J.stop i U.H)
def PostI (K : PySem.W.Frag) (S : Wd) (r : Res (List D)) (R : It → Hp → Prop) (W : XK) : Prop := match r with
  | .stuck => False
  | .ok ds m => ∀ J T, Stp S T → Sta K T m → ItOk K T J ds → R J T.H
  | .exc C fs m => ∀ dd vs T, Stp S T → S.H dd = none → Sta K T m → T.H dd = some (.xd vs) → RepF K T.i T.F fs vs → W (.ref C) (some dd) T.H
def WI (X : Cx) (tg iter : Expr) : TI := fun σ H R => ∀ (pins : List (Addr × Obj)) (s : Shared), Inv X pins σ H s →
  wpAny (model X.prog X.w) X.A (eval iter X.env) (fun v s1 => wpAny (model X.prog X.w) X.A (pyIter v) (PIE X pins σ tg R) X.xe s1) X.xe s
theorem mxI (X : Cx) (tg iter : Expr) : PI X tg iter (WI X tg iter) := ⟨fun pins s σ H R I h => h pins s I⟩
def PDI (X : Cx) (tg iter : Expr) (t : DA) : Prop := ∀ S r m σ R, Sta X.K S m → RelE X.K S r σ → PostI X.K S (t r m) R (fun c d H => Fly X c d σ H) → WI X tg iter σ S.H R
theorem pdi_of {X : Cx} {tg iter : Expr} {u : TI} {t : DA} (h : PI X tg iter u) (k : ∀ S r m σ R, Sta X.K S m → RelE X.K S r σ → PostI X.K S (t r m) R (fun c d H => Fly X c d σ H) → u σ S.H R) : PDI X tg iter t :=
  fun S r m σ R sa re p pins s I => h.run pins s σ S.H R I (k S r m σ R sa re p)
theorem PostI.bindI {α β : Type} {R' : Wd → α → β → Prop} {K : PySem.W.Frag} {S : Wd} {r : Res α} {f : α → Mu → Res (List D)} {Q : It → Hp → Prop} {Q' : β → Hp → Prop} {W : XK} (h : PostI K S (r.bind f) Q W)
    (g : ∀ a m v T, Stp S T → Sta K T m → R' T a v → PostI K T (f a m) Q W → Q' v T.H) : Post R' K S r Q' W := by
  cases r with
  | stuck => exact h
  | ok a m =>
    intro v U s1 s2 s3
    refine g a m v U s1 s2 s3 ?_
    have h : PostI K S (f a m) Q W := h
    cases q : f a m with
    | stuck => rw [q] at h; exact h
    | ok ds m1 => rw [q] at h; exact fun J T st => h J T (s1.trans st)
    | exc C fs m1 => rw [q] at h; exact fun dd vs T st hn => h dd vs T (s1.trans st) (s1.old dd hn)
  | exc C fs m => exact h
section
variable {K : PySem.W.Frag} {T : Wd}
theorem frozen {m : Mu} {ds : List D} {v : V} (sa : Sta K T m) (r : Rep K T.i T.F (.lst ds) v) : ∃ a xs, v = .ref a ∧ Reps K T.i T.F ds xs ∧ ∀ U m', Stp T U → Sta K U m' → SqL K U.H a xs ∧ Reps K U.i U.F ds xs := by
  cases r with
  | lst h1 h2 => exact ⟨_, _, rfl, h2, fun U m' st sa' => ⟨SqL.ext' (SqL.ext' h1 st.ext) sa'.sub, h2.stp st⟩⟩
theorem frozenT {m : Mu} {ds : List D} {v : V} (sa : Sta K T m) (r : Rep K T.i T.F (.tup ds) v) : ∃ a xs, v = .ref a ∧ Reps K T.i T.F ds xs ∧ ∀ U m', Stp T U → Sta K U m' → SqT K U.H a xs ∧ Reps K U.i U.F ds xs := by
  cases r with
  | tup h1 h2 => exact ⟨_, _, rfl, h2, fun U m' st sa' => ⟨SqT.ext' (SqT.ext' h1 st.ext) sa'.sub, h2.stp st⟩⟩
end
section
variable {X : Cx} {tg a b : Expr} {es : List Expr} {ta tb : DE} {t : DA} {pos p tpos : Pos}
def dItL (t : DE) : DA := fun e m => (t e m).bind fun d m1 => match d with
  | .lst ds => .ok ds m1
  | _ => .stuck
theorem pdi_list (ha : PDE X a ta) : PDI X tg a (dItL ta) := by
  refine pdi_of (pi_list (mxE X a)) fun S r m σ R sa re p => ?_
  refine ha S r m σ _ sa re (PostI.bindI p fun d m1 v T st sa1 rd q => ?_)
  split at q
  · rename_i ds
    obtain ⟨a, xs, rfl, hr, k⟩ := frozen sa1 rd
    refine ⟨a, rfl, ⟨xs, (k T m1 (Stp.refl T) sa1).1⟩, q _ T (Stp.refl T) sa1 fun U m' i st' sa' => ⟨fun d hd => ?_, fun hl => ⟨xs, (k U m' st' sa').1, by rw [← hr.len]; exact hl⟩⟩⟩
    obtain ⟨v, hv, rv⟩ := (k U m' st' sa').2.get hd
    refine ⟨⟨xs, v, (k U m' st' sa').1, hv⟩, fun x H' hy => ⟨U, hy.1.symm, Stp.refl U, sa', ?_⟩⟩
    have := hy.2 xs (k U m' st' sa').1
    rw [hv] at this; cases this
    exact rv
  · exact q.elim
def dItT (t : DE) : DA := fun e m => (t e m).bind fun d m1 => match d with
  | .tup ds => .ok ds m1
  | _ => .stuck
theorem pdi_tup (ha : PDE X a ta) : PDI X tg a (dItT ta) := by
  refine pdi_of (pi_tup (mxE X a)) fun S r m σ R sa re p => ?_
  refine ha S r m σ _ sa re (PostI.bindI p fun d m1 v T st sa1 rd q => ?_)
  split at q
  · rename_i ds
    obtain ⟨a, xs, rfl, hr, k⟩ := frozenT sa1 rd
    refine ⟨a, rfl, ⟨xs, (k T m1 (Stp.refl T) sa1).1⟩, q _ T (Stp.refl T) sa1 fun U m' i st' sa' => ⟨fun d hd => ?_, fun hl => ⟨xs, (k U m' st' sa').1, by rw [← hr.len]; exact hl⟩⟩⟩
    obtain ⟨v, hv, rv⟩ := (k U m' st' sa').2.get hd
    refine ⟨⟨xs, v, (k U m' st' sa').1, hv⟩, fun x H' hy => ⟨U, hy.1.symm, Stp.refl U, sa', ?_⟩⟩
    have := hy.2 xs (k U m' st' sa').1
    rw [hv] at this; cases this
    exact rv
  · exact q.elim
def rngD (lo : Int) (n : Nat) : List D := (List.range n).map fun (k : Nat) => .int (lo + (k : Int))
theorem rng_get (lo : Int) (n i : Nat) (d : D) (h : (rngD lo n)[i]? = some d) : i < n ∧ d = .int (lo + (i : Int)) := by
  unfold rngD at h
  rw [List.getElem?_map] at h
  cases q : (List.range n)[i]? with
  | none => rw [q] at h; cases h
  | some k =>
    rw [q] at h; cases h
    obtain ⟨h1, h2⟩ := List.getElem?_eq_some_iff.mp q
    simp at h1 h2
    subst h2
    exact ⟨h1, rfl⟩
theorem rng_len (lo : Int) (n : Nat) : (rngD lo n).length = n := by simp [rngD]
theorem itr_ok {K : PySem.W.Frag} {T : Wd} (lo : Int) (n : Nat) : ItOk K T (Itr lo n) (rngD lo n) := fun U m i st sa => ⟨fun d hd => by
    obtain ⟨h1, rfl⟩ := rng_get lo n i d hd
    exact ⟨h1, fun x H' hy => ⟨U, hy.1.symm, Stp.refl U, sa, by rw [hy.2]; exact .int _⟩⟩, fun hl => by rw [rng_len] at hl; exact hl⟩
def dItR1 (t : DA) : DA := fun e m => (t e m).bind fun ds m1 => match ds with
  | [.int j] => if -(2 ^ 62) ≤ j ∧ j < 2 ^ 62 then .ok (rngD 0 j.toNat) m1 else .stuck
  | _ => .stuck
def dItR2 (t : DA) : DA := fun e m => (t e m).bind fun ds m1 => match ds with
  | [.int i, .int j] => if -(2 ^ 62) ≤ i ∧ i < 2 ^ 62 ∧ -(2 ^ 62) ≤ j ∧ j < 2 ^ 62 then .ok (rngD i (j - i).toNat) m1 else .stuck
  | _ => .stuck
theorem pdi_range1 (hm : X.mg "range" = none) (ha : PDA X [a] t) (hg : Gl X "range" := by rfl) (hs : starEach [a] X.env = [(false, eval a X.env)] := by rfl) : PDI X tg (.Call (.Name "range" p) [a] [] pos) (dItR1 t) := by
  refine pdi_of (pi_range1 hg hm (mxA X [a]) hs) fun S r m σ R sa re p => ?_
  refine ha S r m σ _ sa re (PostI.bindI p fun d m1 v T st sa1 rd q => ?_)
  split at q
  · split at q
    · rename_i h
      obtain ⟨w, rfl, hw⟩ := reps1 rd
      cases hw
      exact ⟨_, rfl, h.1, h.2, q _ T (Stp.refl T) sa1 (itr_ok 0 _)⟩
    · exact q.elim
  · exact q.elim
def dItE (t : DA) : DA := fun e m => (t e m).bind fun ds m1 => match ds with
  | [.lst es] => .ok ((List.range es.length).zipWith (fun k d => .tup [.int (k : Nat), d]) es) m1
  | _ => .stuck
theorem enum_get (es : List D) (i : Nat) (d : D) (h : ((List.range es.length).zipWith (fun k d => D.tup [.int (k : Nat), d]) es)[i]? = some d) : ∃ x, es[i]? = some x ∧ d = .tup [.int (i : Nat), x] := by
  rw [List.getElem?_zipWith] at h
  cases q : (List.range es.length)[i]? with
  | none => rw [q] at h; cases h
  | some k =>
    cases q2 : es[i]? with
    | none => rw [q, q2] at h; cases h
    | some x =>
      rw [q, q2] at h; cases h
      obtain ⟨h1, h2⟩ := List.getElem?_eq_some_iff.mp q
      simp at h1 h2
      subst h2
      exact ⟨x, rfl, rfl⟩
theorem pdi_enum {elts : List Expr} {kk : Nat} (hm : X.mg "enumerate" = none) (ha : PDA X [a] t) (hg : Gl X "enumerate" := by rfl) (hs : starEach [a] X.env = [(false, eval a X.env)] := by rfl) : PDI X (.Tuple elts kk tpos) (.Call (.Name "enumerate" p) [a] [] pos) (dItE t) := by
  refine pdi_of (pi_enum hg hm (mxA X [a]) hs) fun S r m σ R sa re p => ?_
  refine ha S r m σ _ sa re (PostI.bindI p fun d m1 v T st sa1 rd q => ?_)
  split at q
  · rename_i es
    obtain ⟨w, rfl, hw⟩ := reps1 rd
    obtain ⟨a, xs, rfl, hr, k⟩ := frozen sa1 hw
    refine ⟨a, xs, rfl, (k T m1 (Stp.refl T) sa1).1, q _ T (Stp.refl T) sa1 fun U m' i st' sa' => ⟨fun d hd => ?_, fun hl => ⟨xs, (k U m' st' sa').1, ?_⟩⟩⟩
    · obtain ⟨x, hx, rfl⟩ := enum_get es i d hd
      obtain ⟨v, hv, rv⟩ := (k U m' st' sa').2.get hx
      refine ⟨⟨xs, v, (k U m' st' sa').1, hv⟩, fun y H' hy => ?_⟩
      obtain ⟨n, z, rfl, hn, rfl, hz⟩ := hy
      have hz' := hz xs (k U m' st' sa').1
      rw [hv] at hz'; cases hz'
      have st2 := Stp.new sa' (o := .tup [.int (i : Nat), v]) hn
      exact ⟨U.new n _, rfl, st2, sa'.new hn, .tup (.inl (.inl upd_same)) (.cons (.int _) (.cons (rv.stp st2) .nil))⟩
    · have hl : ((List.range es.length).zipWith (fun k d => D.tup [.int (k : Nat), d]) es).length ≤ i := hl
      rw [List.length_zipWith, List.length_range, Nat.min_self, hr.len] at hl
      exact hl
  · exact q.elim
def dItZ (t : DA) : DA := fun e m => (t e m).bind fun ds m1 => match ds with
  | [.lst xs, .lst ys] => .ok (xs.zipWith (fun x y => .tup [x, y]) ys) m1
  | [.tup xs, .tup ys] => .ok (xs.zipWith (fun x y => .tup [x, y]) ys) m1
  | _ => .stuck
theorem zip_get {xs ys : List D} {i : Nat} {d : D} (h : (xs.zipWith (fun x y => D.tup [x, y]) ys)[i]? = some d) : ∃ x y, xs[i]? = some x ∧ ys[i]? = some y ∧ d = .tup [x, y] := by
  rw [List.getElem?_zipWith] at h
  cases q : xs[i]? with
  | none => rw [q] at h; cases h
  | some k =>
    cases q2 : ys[i]? with
    | none => rw [q, q2] at h; cases h
    | some x => rw [q, q2] at h; cases h; exact ⟨k, x, rfl, rfl, rfl⟩
theorem pdi_zip {elts : List Expr} {kk : Nat} (hm : X.mg "zip" = none) (ha : PDA X [a, b] t) (hg : Gl X "zip" := by rfl) (hs : starEach [a, b] X.env = (false, eval a X.env) :: starEach [b] X.env := by rfl) (hpl : (backTo pos (starEach [b] X.env)).any (·.1) = false := by rfl) : PDI X (.Tuple elts kk tpos) (.Call (.Name "zip" p) [a, b] [] pos) (dItZ t) := by
  refine pdi_of (RZ.pi_zipA hg hm (mxA X [a, b]) hs hpl) fun S r m σ R sa re p => ?_
  refine ha S r m σ _ sa re (PostI.bindI p fun d m1 v T st sa1 rd q => ?_)
  split at q
  · obtain ⟨w, w2, rfl, hw, hw2⟩ := reps2 rd
    obtain ⟨a, xs, rfl, hr, k⟩ := frozen sa1 hw
    obtain ⟨b, ys, rfl, hr2, k2⟩ := frozen sa1 hw2
    refine ⟨a, b, xs, ys, rfl, .inl ⟨(k T m1 (Stp.refl T) sa1).1, (k2 T m1 (Stp.refl T) sa1).1, q _ T (Stp.refl T) sa1 fun U m' i st' sa' => ⟨fun d hd => ?_, fun hl => ⟨xs, ys, (k U m' st' sa').1, (k2 U m' st' sa').1, ?_⟩⟩⟩⟩
    · obtain ⟨x, y, hx, hy, rfl⟩ := zip_get hd
      obtain ⟨v, hv, rv⟩ := (k U m' st' sa').2.get hx
      obtain ⟨v2, hv2, rv2⟩ := (k2 U m' st' sa').2.get hy
      refine ⟨⟨xs, ys, v, v2, (k U m' st' sa').1, (k2 U m' st' sa').1, hv, hv2⟩, fun y H' hy => ?_⟩
      obtain ⟨n, z, z2, rfl, hn, rfl, hz, hz2⟩ := hy
      have hz' := hz xs (k U m' st' sa').1
      have hz2' := hz2 ys (k2 U m' st' sa').1
      rw [hv] at hz'; cases hz'
      rw [hv2] at hz2'; cases hz2'
      have st2 := Stp.new sa' (o := .tup [v, v2]) hn
      exact ⟨U.new n _, rfl, st2, sa'.new hn, .tup (.inl (.inl upd_same)) (.cons (rv.stp st2) (.cons (rv2.stp st2) .nil))⟩
    · rw [List.length_zipWith, hr.len, hr2.len] at hl
      omega
  · obtain ⟨w, w2, rfl, hw, hw2⟩ := reps2 rd
    obtain ⟨a, xs, rfl, hr, k⟩ := frozenT sa1 hw
    obtain ⟨b, ys, rfl, hr2, k2⟩ := frozenT sa1 hw2
    refine ⟨a, b, xs, ys, rfl, .inr ⟨(k T m1 (Stp.refl T) sa1).1, (k2 T m1 (Stp.refl T) sa1).1, q _ T (Stp.refl T) sa1 fun U m' i st' sa' => ⟨fun d hd => ?_, fun hl => ⟨xs, ys, (k U m' st' sa').1, (k2 U m' st' sa').1, ?_⟩⟩⟩⟩
    · obtain ⟨x, y, hx, hy, rfl⟩ := zip_get hd
      obtain ⟨v, hv, rv⟩ := (k U m' st' sa').2.get hx
      obtain ⟨v2, hv2, rv2⟩ := (k2 U m' st' sa').2.get hy
      refine ⟨⟨xs, ys, v, v2, (k U m' st' sa').1, (k2 U m' st' sa').1, hv, hv2⟩, fun y H' hy => ?_⟩
      obtain ⟨n, z, z2, rfl, hn, rfl, hz, hz2⟩ := hy
      have hz' := hz xs (k U m' st' sa').1
      have hz2' := hz2 ys (k2 U m' st' sa').1
      rw [hv] at hz'; cases hz'
      rw [hv2] at hz2'; cases hz2'
      have st2 := Stp.new sa' (o := .tup [v, v2]) hn
      exact ⟨U.new n _, rfl, st2, sa'.new hn, .tup (.inl (.inl upd_same)) (.cons (rv.stp st2) (.cons (rv2.stp st2) .nil))⟩
    · rw [List.length_zipWith, hr.len, hr2.len] at hl
      omega
  · exact q.elim
def dLoop (g : DG) (b : DS) : List D → En → Mu → RS
  | [], e, m => .nx e m
  | d :: ds, e, m => match g d e with
    | none => .stuck
    | some e1 => match b e1 m with
      | .nx e2 m2 => dLoop g b ds e2 m2
      | .ct e2 m2 => dLoop g b ds e2 m2
      | .bk e2 m2 => .nx e2 m2
      | .rt d m2 => .rt d m2
      | .exc C fs e2 m2 => .exc C fs e2 m2
      | .stuck => .stuck
def dFor (t : DA) (g : DG) (b : DS) : DS := fun e m => match t e m with
  | .ok ds m1 => dLoop g b ds e m1
  | .exc C fs m1 => .exc C fs e m1
  | .stuck => .stuck
theorem pds_for {iter : Expr} {body : List Stmt} {g : DG} {u : DS} {sl : List Nat} (hi : PDI X tg iter t) (hg : PDG X tg g sl) (hb : PDSs X body u) (hc : X.calm = true) (hp : PassesOwn (model X.prog X.w) X.A X.env X.xe)
    (hs : ∀ x, foldedSetIterable iter X.env x = pure x := by intro _; rfl) : PDS X (.For tg iter body [] pos) (dFor t g u) := by
  refine ps_of (ps_for hp hc (mxI X tg iter) (mxG X tg) (mxSs X body) hs) fun S r m σ N sa re p => hi S r m σ _ sa re ?_
  unfold dFor at p
  cases q : t r m with
  | stuck => rw [q] at p; exact p
  | exc C fs m1 => rw [q] at p; exact fun dd vs T st hn sa1 h1 h2 => p dd vs σ T st hn sa1 (re.stp st) h1 h2
  | ok ds m1 =>
    rw [q] at p
    intro J T st sa1 hJ
    refine ⟨fun i n σ' H' => n = ds.length - i ∧ i ≤ ds.length ∧ ∃ (U : Wd) (e : En) (m' : Mu), U.H = H' ∧ Stp T U ∧ Sta X.K U m' ∧ RelE X.K U e σ' ∧ PostS X.K U (dLoop g u (ds.drop i) e m') N (Fly X),
      ⟨ds.length, by simp, Nat.zero_le _, T, r, m1, rfl, Stp.refl T, sa1, re.stp st, PostS.step st p⟩, ?_⟩
    rintro i n σ' H' ⟨rfl, hi', U, e, m', rfl, stU, saU, reU, pU⟩
    by_cases hlt : i < ds.length
    · refine .inr ⟨((hJ U m' i stU saU).1 _ (List.getElem?_eq_getElem hlt)).1, fun σ2 H2 => i + 1 ≤ ds.length ∧ ∃ (U2 : Wd) (e2 : En) (m2 : Mu), U2.H = H2 ∧ Stp T U2 ∧ Sta X.K U2 m2 ∧ RelE X.K U2 e2 σ2 ∧ PostS X.K U2 (dLoop g u (ds.drop (i + 1)) e2 m2) N (Fly X),
        fun σ2 H2 h2 => ⟨ds.length - (i + 1), by omega, rfl, h2.1, h2.2⟩, fun x H2 hy => ?_⟩
      obtain ⟨Y, rfl, stY, saY, rdY⟩ := ((hJ U m' i stU saU).1 _ (List.getElem?_eq_getElem hlt)).2 x H2 hy
      rw [List.drop_eq_getElem_cons hlt] at pU
      have pY := PostS.step stY pU
      unfold dLoop at pY
      cases qg : g ds[i] e with
      | none => rw [qg] at pY; exact pY.elim
      | some e1 =>
        rw [qg] at pY
        refine hg Y e m' σ' ds[i] x e1 _ saY (reU.stp stY) rdY qg fun σ1 re1 _ => hb Y e1 m' σ1 _ saY re1 ?_
        have stT := stU.trans stY
        dsimp only at pY
        cases qb : u e1 m' with
        | stuck => rw [qb] at pY; exact pY.elim
        | nx e2 m2 => rw [qb] at pY; exact fun σ2 Z stZ saZ reZ => ⟨hlt, Z, e2, m2, rfl, stT.trans stZ, saZ, reZ, PostS.step stZ pY⟩
        | ct e2 m2 => rw [qb] at pY; exact fun σ2 Z stZ saZ reZ => ⟨hlt, Z, e2, m2, rfl, stT.trans stZ, saZ, reZ, PostS.step stZ pY⟩
        | bk e2 m2 => rw [qb] at pY; exact pY
        | rt d m2 => rw [qb] at pY; exact pY
        | exc C fs e2 m2 => rw [qb] at pY; exact pY
    · have e : i = ds.length := by omega
      subst e
      rw [List.drop_length] at pU
      exact .inl ⟨(hJ U m' _ stU saU).2 (Nat.le_refl _), pU σ' U (Stp.refl U) saU reU⟩
def whileF (c : DT) (b : DS) : Nat → En → Mu → RS
  | 0, _, _ => .stuck
  | n + 1, e, m => match c e m with
    | .stuck => .stuck
    | .exc C fs m1 => .exc C fs e m1
    | .ok false m1 => .nx e m1
    | .ok true m1 => match b e m1 with
      | .nx e2 m2 => whileF c b n e2 m2
      | .ct e2 m2 => whileF c b n e2 m2
      | .bk e2 m2 => .nx e2 m2
      | .rt d m2 => .rt d m2
      | .exc C fs e2 m2 => .exc C fs e2 m2
      | .stuck => .stuck
open Classical in
noncomputable def dWhile (c : DT) (b : DS) : DS := fun e m => if h : ∃ n, whileF c b n e m ≠ .stuck then whileF c b h.choose e m else .stuck
theorem whileF_more (c : DT) (b : DS) : ∀ (n k : Nat) (e : En) (m : Mu), whileF c b n e m ≠ .stuck → whileF c b (n + k) e m = whileF c b n e m
  | 0, _, _, _, h => absurd rfl h
  | n + 1, k, e, m, h => by
    rw [show n + 1 + k = (n + k) + 1 by omega]
    unfold whileF at h ⊢
    cases qc : c e m with
    | stuck => rfl
    | exc C fs m1 => rfl
    | ok v m1 =>
      rw [qc] at h
      cases v with
      | false => rfl
      | true =>
        dsimp only at h ⊢
        cases qb : b e m1 with
        | nx e2 m2 => rw [qb] at h; exact whileF_more c b n k e2 m2 h
        | ct e2 m2 => rw [qb] at h; exact whileF_more c b n k e2 m2 h
        | _ => rfl
theorem dWhile_eq {c : DT} {b : DS} {n : Nat} {e : En} {m : Mu} {r : RS} (h : whileF c b n e m = r) (hr : r ≠ .stuck) : dWhile c b e m = r := by
  have hex : ∃ n, whileF c b n e m ≠ .stuck := ⟨n, by rw [h]; exact hr⟩
  unfold dWhile
  rw [dif_pos hex]
  have hc := hex.choose_spec
  have h1 := whileF_more c b n hex.choose e m (by rw [h]; exact hr)
  have h2 := whileF_more c b hex.choose n e m hc
  rw [Nat.add_comm] at h2
  rw [← h, ← h1, h2]
theorem pds_while {c : Expr} {body : List Stmt} {v : DT} {u : DS} (hv : PDT X c v) (hb : PDSs X body u) (hp : PassesOwn (model X.prog X.w) X.A X.env X.xe) : PDS X (.While c body [] pos) (dWhile v u) := by
  refine ps_of (ps_while hp (mxT X c) (mxSs X body)) fun S r m σ N sa re p => ?_
  unfold dWhile at p
  split at p
  · rename_i hex
    generalize hex.choose = n at p
    refine ⟨fun n σ' H' => ∃ (U : Wd) (e : En) (m' : Mu), U.H = H' ∧ Sta X.K U m' ∧ RelE X.K U e σ' ∧ PostS X.K U (whileF v u n e m') N (Fly X), ⟨n, S, r, m, rfl, sa, re, p⟩, ?_⟩
    rintro n σ' H' ⟨U, e, m', rfl, saU, reU, pU⟩
    cases n with
    | zero => exact (show False from pU).elim
    | succ n =>
      refine hv U e m' σ' _ saU reU ?_
      unfold whileF at pU
      cases qc : v e m' with
      | stuck => rw [qc] at pU; exact pU.elim
      | exc C fs m1 => rw [qc] at pU; exact fun dd vs T st hn sa1 h1 h2 => pU dd vs σ' T st hn sa1 (reU.stp st) h1 h2
      | ok k m1 =>
        rw [qc] at pU
        intro k' T st sa1 hk
        cases (show k = k' from hk)
        have pT := PostS.step st pU
        cases k with
        | false => exact iteF (pT σ' T (Stp.refl T) sa1 (reU.stp st))
        | true =>
          refine iteT ⟨fun σ2 H2 => ∃ (U : Wd) (e : En) (m' : Mu), U.H = H2 ∧ Sta X.K U m' ∧ RelE X.K U e σ2 ∧ PostS X.K U (whileF v u n e m') N (Fly X), fun σ2 H2 h2 => ⟨n, Nat.lt_succ_self n, h2⟩, ?_⟩
          refine hb T e m1 σ' _ sa1 (reU.stp st) ?_
          dsimp only at pT
          cases qb : u e m1 with
          | stuck => rw [qb] at pT; exact pT.elim
          | nx e2 m2 => rw [qb] at pT; exact fun σ2 Z stZ saZ reZ => ⟨Z, e2, m2, rfl, saZ, reZ, PostS.step stZ pT⟩
          | ct e2 m2 => rw [qb] at pT; exact fun σ2 Z stZ saZ reZ => ⟨Z, e2, m2, rfl, saZ, reZ, PostS.step stZ pT⟩
          | bk e2 m2 => rw [qb] at pT; exact pT
          | rt d m2 => rw [qb] at pT; exact pT
          | exc C fs e2 m2 => rw [qb] at pT; exact pT
  · exact p.elim
def dCompL (g : DG) (c : DT) (b : DE) (e : En) : List D → Mu → List D → Res (List D)
  | [], m, acc => .ok acc m
  | d :: ds, m, acc => match g d e with
    | none => .stuck
    | some e1 => match c e1 m with
      | .ok true m1 => match b e1 m1 with
        | .ok x m2 => if acc.length < sizeLine then dCompL g c b e ds m2 (acc ++ [x]) else .stuck
        | _ => .stuck
      | .ok false m1 => dCompL g c b e ds m1 acc
      | _ => .stuck
def dComp (t : DA) (g : DG) (c : DT) (b : DE) (own : List Nat) : DE := fun e m => (t e m).bind fun ds m1 => (dCompL g c b (wipeE e own) ds m1 []).bind fun xs m2 => .ok (.lst xs) m2
def dYes : DT := fun _ m => .ok true m
def WTs (X : Cx) (ifs : List Expr) : TT := fun σ H Q => ∀ (pins : List (Addr × Obj)) (s : Shared), Inv X pins σ H s → wpAny (model X.prog X.w) X.A (forIn ifs true fun c r => if r = true then do let ok ← isTrue c X.env (eval c X.env); pure (ForInStep.yield ok) else pure (ForInStep.yield r)) (TP X pins σ Q) X.xe s
def PDTs (X : Cx) (ifs : List Expr) (t : DT) : Prop := ∀ S r m σ Q, Sta X.K S m → RelE X.K S r σ → PostB X.K S (t r m) Q (fun c d H => Fly X c d σ H) → WTs X ifs σ S.H Q
theorem pdts_nil : PDTs X [] dYes := fun S r m σ Q sa re p pins s I => (pts_nil (X := X)).run pins s σ S.H Q I (Post.ok p (Stp.refl S) sa rfl)
end
end DL

namespace DL
open PySem PySem.Spec PyProof.Rows L2
variable [LamTab]
section
variable {K : PySem.W.Frag} {S T U Y : Wd}
theorem Stp.hid (st : Stp T Y) {p : Addr} {o : HO} (h : T.H p = none) : Stp T (Y.put p o) := ⟨st.pre, st.ext, fun a u hn h1 h2 h3 => by
  have ne : a ≠ p := ne_of_none h1 h
  obtain ⟨k1, k2, k3⟩ := st.frame a u hn h1 h2 h3
  exact ⟨by show upd Y.H p o a = _; rw [upd_ne ne]; exact k1, k2, k3⟩, fun a z => st.old a (upd_none z)⟩
theorem Stp.kept (st : Stp T Y) {p : Addr} {o : HO} (h : T.H p = none) (hf : Y.F p = none) : Stp T (Y.keep p o) := ⟨st.pre, st.ext.trans (Ext.updNew hf), fun a u hn h1 h2 h3 => by
  have ne : a ≠ p := ne_of_none h1 h
  obtain ⟨k1, k2, k3⟩ := st.frame a u hn h1 h2 h3
  exact ⟨k1, by show upd Y.F p o a = _; rw [upd_ne ne]; exact k2, k3⟩, st.old⟩
end
theorem wipe_none {σ : L2.St} : ∀ {vs : List Nat} {i : Nat}, i ∈ vs → i < σ.length → (wipe σ vs)[i]? = some none
  | v :: vs, i, h, hl => by
    unfold wipe
    by_cases hv : v = i
    · subst hv
      rw [List.getElem?_set_self (by rw [wipe_length]; exact hl)]
    · rw [List.getElem?_set_ne hv]
      rcases List.mem_cons.mp h with e | h
      · exact absurd e.symm hv
      · exact wipe_none h hl
theorem wipe_idem {σ : L2.St} : ∀ {vs : List Nat}, (∀ i ∈ vs, σ[i]? = none ∨ σ[i]? = some none) → wipe σ vs = σ
  | [], _ => rfl
  | v :: vs, h => by
    unfold wipe
    rw [wipe_idem (fun i hi => h i (List.mem_cons_of_mem _ hi))]
    apply List.ext_getElem?
    intro j
    by_cases hj : v = j
    · subst hj
      rcases h v List.mem_cons_self with e | e
      · rw [List.getElem?_eq_none (by rw [List.length_set]; exact List.getElem?_eq_none_iff.mp e), e]
      · rw [List.getElem?_set_self (List.getElem?_eq_some_iff.mp e).1, e]
    · rw [List.getElem?_set_ne hj]
theorem wipe_wipe (σ : L2.St) (vs : List Nat) : wipe (wipe σ vs) vs = wipe σ vs := wipe_idem fun i hi => by
  by_cases hl : i < σ.length
  · exact .inr (wipe_none hi hl)
  · exact .inl (List.getElem?_eq_none (by rw [wipe_length]; omega))
section
variable {X : Cx}
abbrev Bk (X : Cx) (scope : Scope) (s : Shared) (H : Hp) (C : Addr) (cl : List (Str × Addr)) (fp : List Addr) : Cx := X.blk s H scope (compEnvC scope cl C X.env) fp
abbrev bG (X : Cx) (scope : Scope) (tg : Expr) : TG := fun v σ H Q => ∀ s0 H0 C cl fp, WG (Bk X scope s0 H0 C cl fp) tg v σ H Q
abbrev bT (X : Cx) (scope : Scope) (ifs : List Expr) : TT := fun σ H Q => ∀ s0 H0 C cl fp, WTs (Bk X scope s0 H0 C cl fp) ifs σ H Q
abbrev bE (X : Cx) (scope : Scope) (elt : Expr) : TE := fun σ H Q => ∀ s0 H0 C cl fp, WE (Bk X scope s0 H0 C cl fp) elt σ H Q
variable {elt tg iter : Expr} {ifs : List Expr} {scope : Scope} {own : List (Str × Nat)} {pos spos : Pos} {t : DA} {g : DG} {c : DT} {b : DE} {sl : List Nat}
theorem lc_go {σ : L2.St} {S : Wd} {r : En} {m : Mu} {Q : VK} (hi : PDI X tg iter t)
    (hg : ∀ s H C cl fp, PDG (Bk X scope s H C cl fp) tg g sl) (ht : ∀ s H C cl fp, PDTs (Bk X scope s H C cl fp) ifs c) (he : ∀ s H C cl fp, PDE (Bk X scope s H C cl fp) elt b)
    (hsl : ∀ i ∈ sl, i ∈ own.map (·.2))
    (sa : Sta X.K S m) (re : RelE X.K S r σ) (p : PostD X.K S (dComp t g c b (own.map (·.2)) r m) Q (fun c d H => Fly X c d σ H)) :
    tLc (WI X tg iter) (bG X scope tg) (bT X scope ifs) (bE X scope elt) (own.map (·.2)) σ S.H Q := by
  refine hi S r m σ _ sa re ?_
  unfold dComp at p
  cases q : t r m with
  | stuck => rw [q] at p; exact p
  | exc C fs m1 => rw [q] at p; exact p
  | ok ds m1 =>
    rw [q] at p
    intro J T st sa1 hJ Dd hD
    have pT : PostD X.K T ((dCompL g c b (wipeE r (own.map (·.2))) ds m1 []).bind fun xs m2 => Res.ok (D.lst xs) m2) Q (fun c d H => Fly X c d σ H) := Post.step st p
    have reW : RelE X.K T (wipeE r (own.map (·.2))) (wipe σ (own.map (·.2))) := (re.stp st).wipe _
    have f0 := sa1.fresh hD
    refine ⟨fun i n H' => n = ds.length - i ∧ i ≤ ds.length ∧ ∃ (U : Wd) (m' : Mu) (acc : List D) (av : List V), U.H = H' ∧ Stp T U ∧ Sta X.K U m' ∧ U.H Dd = some (.lst av) ∧ U.F Dd = none ∧ Dd ∉ U.i ∧ Reps X.K U.i U.F acc av ∧
        PostD X.K T ((dCompL g c b (wipeE r (own.map (·.2))) (ds.drop i) m' acc).bind fun xs m2 => Res.ok (D.lst xs) m2) Q (fun c d H => Fly X c d σ H),
      ⟨ds.length, by simp, Nat.zero_le _, T.put Dd (.lst []), m1, [], [], rfl, (Stp.refl T).hid hD, sa1.hid f0.1 f0.2 (by rw [hD]; exact nofun), upd_same, f0.1, f0.2, .nil, pT⟩, ?_⟩
    rintro i n H' ⟨rfl, hi', U, m', acc, av, rfl, stU, saU, hU1, hU2, hU3, rA, pU⟩
    by_cases hlt : i < ds.length
    · refine .inr ⟨((hJ U m' i stU saU).1 _ (List.getElem?_eq_getElem hlt)).1, fun H2 => i + 1 ≤ ds.length ∧ ∃ (U : Wd) (m' : Mu) (acc : List D) (av : List V), U.H = H2 ∧ Stp T U ∧ Sta X.K U m' ∧ U.H Dd = some (.lst av) ∧ U.F Dd = none ∧ Dd ∉ U.i ∧ Reps X.K U.i U.F acc av ∧
        PostD X.K T ((dCompL g c b (wipeE r (own.map (·.2))) (ds.drop (i + 1)) m' acc).bind fun xs m2 => Res.ok (D.lst xs) m2) Q (fun c d H => Fly X c d σ H),
        fun H2 h2 => ⟨ds.length - (i + 1), by omega, rfl, h2.1, h2.2⟩, fun x H2 hy => ?_⟩
      obtain ⟨Y, rfl, stY, saY, rdY⟩ := ((hJ U m' i stU saU).1 _ (List.getElem?_eq_getElem hlt)).2 x H2 hy
      obtain ⟨y1, y2, y3⟩ := stY.frame Dd _ (by exact nofun) hU1 hU2 hU3
      rw [List.drop_eq_getElem_cons hlt] at pU
      unfold dCompL at pU
      have stT := stU.trans stY
      cases qg : g ds[i] (wipeE r (own.map (·.2))) with
      | none => rw [qg] at pU; exact (show False from pU).elim
      | some e1 =>
        rw [qg] at pU
        dsimp only at pU
        intro s0 H0 C0 cl0 fp0
        refine hg s0 H0 C0 cl0 fp0 Y (wipeE r (own.map (·.2))) m' (wipe σ (own.map (·.2))) ds[i] x e1 _ saY (reW.stp stT) rdY qg ?_
        intro σ1 re1 bs
        refine ⟨?_, ?_⟩
        · rw [bs _ hsl]
          exact wipe_wipe _ _
        intro s0 H0 C0 cl0 fp0
        cases qc : c e1 m' with
        | stuck => rw [qc] at pU; exact (show False from pU).elim
        | exc C fs m2 => rw [qc] at pU; exact (show False from pU).elim
        | ok k m2 =>
          rw [qc] at pU
          refine ht s0 H0 C0 cl0 fp0 Y e1 m' σ1 _ saY re1 ?_
          rw [qc]
          intro k' Z stZ saZ hk
          cases (show k = k' from hk)
          obtain ⟨z1, z2, z3⟩ := stZ.frame Dd _ (by exact nofun) y1 y2 y3
          cases k with
          | false =>
            exact iteF ⟨hlt, Z, m2, acc, av, rfl, stT.trans stZ, saZ, z1, z2, z3, (rA.stp stY).stp stZ, pU⟩
          | true =>
            refine iteT ?_
            intro s0 H0 C0 cl0 fp0
            dsimp only at pU
            cases qb : b e1 m2 with
            | stuck => rw [qb] at pU; exact (show False from pU).elim
            | exc C fs m3 => rw [qb] at pU; exact (show False from pU).elim
            | ok dx m3 =>
              rw [qb] at pU
              refine he s0 H0 C0 cl0 fp0 Z e1 m2 σ1 _ saZ (re1.stp stZ) ?_
              rw [qb]
              intro vx V1 stV saV rx
              obtain ⟨w1, w2, w3⟩ := stV.frame Dd _ (by exact nofun) z1 z2 z3
              dsimp only at pU
              split at pU
              · rename_i hlen
                refine ⟨av, w1, by rw [← rA.len]; exact hlen, hlt, V1.put Dd (.lst (av ++ [vx])), m3, acc ++ [dx], av ++ [vx], rfl, ((stT.trans stZ).trans stV).hid hD, saV.hid w2 w3 (by rw [w1]; exact nofun), upd_same, w2, w3, ((((rA.stp stY).stp stZ).stp stV)).append (.cons rx .nil), pU⟩
              · exact (show False from pU).elim
    · have e : i = ds.length := by omega
      subst e
      rw [List.drop_length] at pU
      refine .inl ⟨(hJ U m' _ stU saU).2 (Nat.le_refl _), ?_⟩
      have pU : PostD X.K T (Res.ok (D.lst acc) m') Q (fun c d H => Fly X c d σ H) := pU
      exact pU (.ref Dd) (U.keep Dd (.lst av)) (stU.kept hD hU2) (saU.keep hU1 hU2 hU3 (by exact nofun)) (.lst (.inl (.inl upd_same)) (rA.mono (List.prefix_refl _) (Ext.updNew hU2)))
theorem pd_lc (hi : PDI X tg iter t) (hN : X.N.Nodup) (ok : BlkOk X.N X.env.scope scope own)
    (hg : ∀ s H C cl fp, PDG (Bk X scope s H C cl fp) tg g sl) (ht : ∀ s H C cl fp, PDTs (Bk X scope s H C cl fp) ifs c) (he : ∀ s H C cl fp, PDE (Bk X scope s H C cl fp) elt b)
    (hc : X.calm = true) (hsl : ∀ i ∈ sl, i ∈ own.map (·.2) := by decide) (hs : ∀ x, foldedSetIterable iter X.env x = pure x := by intro _; rfl) :
    PDE X (.ListComp elt [⟨tg, iter, ifs, 0⟩] scope pos) (dComp t g c b (own.map (·.2))) :=
  pd_of (pe_lc (g := bG X scope tg) (tt := bT X scope ifs) (te := bE X scope elt) hc hN (mxI X tg iter) ok (fun s H C cl fp => ⟨fun pins s1 σ H1 v u Q I r h => h s H C cl fp pins s1 u I r⟩) (fun s H C cl fp => ⟨fun pins s1 σ H1 Q I h => h s H C cl fp pins s1 I⟩) (fun s H C cl fp => ⟨fun pins s1 σ H1 Q I h => h s H C cl fp pins s1 I⟩) hs)
    fun S r m σ Q sa re p => lc_go hi hg ht he hsl sa re p
theorem pds_setLc {i : Nat} {y : Str} {py : Pos} (hi : PDI X tg iter t) (hN : X.N.Nodup) (ok : BlkOk X.N X.env.scope scope own)
    (hg : ∀ s H C cl fp, PDG (Bk X scope s H C cl fp) tg g sl) (ht : ∀ s H C cl fp, PDTs (Bk X scope s H C cl fp) ifs c) (he : ∀ s H C cl fp, PDE (Bk X scope s H C cl fp) elt b)
    (hc : X.calm = true) (hsw : swapsWith (.ListComp elt [⟨tg, iter, ifs, 0⟩] scope pos) (some (.Name y py)) spos.line X.env = pure true) (hsl : ∀ i ∈ sl, i ∈ own.map (·.2) := by decide) (hy : X.N[i]? = some y := by rfl) (hyl : X.env.scope.names.lookup y = some .local := by rfl) (hs : ∀ x, foldedSetIterable iter X.env x = pure x := by intro _; rfl) :
    PDS X (.Assign [.Name y py] (.ListComp elt [⟨tg, iter, ifs, 0⟩] scope pos) spos) (dSet i (dComp t g c b (own.map (·.2)))) := by
  refine ps_of (ps_setLc (g := bG X scope tg) (tt := bT X scope ifs) (te := bE X scope elt) hc hN hy hyl hsw (mxI X tg iter) ok (fun s H C cl fp => ⟨fun pins s1 σ H1 v u Q I r h => h s H C cl fp pins s1 u I r⟩) (fun s H C cl fp => ⟨fun pins s1 σ H1 Q I h => h s H C cl fp pins s1 I⟩) (fun s H C cl fp => ⟨fun pins s1 σ H1 Q I h => h s H C cl fp pins s1 I⟩) hs) fun S r m σ N sa re p => ?_
  exact lc_go hi hg ht he hsl sa re (PDE.stm re p fun d m1 v T st sa1 rd q => q _ T (Stp.refl T) sa1 ((re.stp st).set i rd))
variable {a e o : Expr} {es : List Expr} {ta tb to : DE}
def dPutI (tv to ti : DE) : DS := fun e m => rsOf e (tv e m) fun v m1 => rsOf e (to e m1) fun o m2 => rsOf e (ti e m2) fun i m3 => match o, i with
  | .loc n, .int k => match m3[n]? with
    | some (.lst ds) => match ixN ds.length k with
      | some j => .nx e (m3.set n (.lst (ds.set j v)))
      | none => .stuck
    | _ => .stuck
  | _, _ => .stuck
theorem pds_putI {tpos : Pos} {i : Expr} {ti : DE} (hv : PDE X a ta) (ho : PDE X o to) (hi : PDE X i ti) (hs : swapsWithSole [.Subscript o i tpos] a pos.line X.env = pure false := by rfl) (hw : swappedStores [.Subscript o i tpos] a X.env = pure none := by rfl)
    (h1 : (assignEach [.Subscript o i tpos] X.env).map (·.2) = [assign (.Subscript o i tpos) X.env] := by rfl)
    (ha : ∀ v, assign (.Subscript o i tpos) X.env v = (do
      let ov ← holding [v] (eval o X.env)
      let iv ← holding [v, ov] (eval i X.env)
      standAt tpos
      holding [v, ov, iv] (setItem ov iv v)
      release [v, ov, iv] []) := by intro _; rfl) : PDS X (.Assign [.Subscript o i tpos] a pos) (dPutI ta to ti) := by
  refine ps_of (ps_asg (mxE X a) (pg_sub (mxE X o) (mxE X i) set_list ha) hs hw h1) fun S r m σ N sa re p => ?_
  refine hv S r m σ _ sa re (PDE.stm re p fun v m1 vv T st sa1 rv q => ?_)
  refine ho T r m1 σ _ sa1 (re.stp st) (PDE.stm (re.stp st) q fun d m2 vo U st2 sa2 ro q2 => ?_)
  refine hi U r m2 σ _ sa2 ((re.stp st).stp st2) (PDE.stm ((re.stp st).stp st2) q2 fun ii m3 vi Y st3 sa3 ri q3 => ?_)
  split at q3
  · rename_i n k
    cases ri
    split at q3
    · rename_i ds e1
      split at q3
      · rename_i j ej
        cases (ro.stp st3) with
        | loc hn =>
          obtain ⟨xs, h1, h2⟩ := sa3.ok n _ _ hn e1
          refine ⟨_, xs, k, j, rfl, rfl, h1, by rw [← h2.len]; exact ej, ?_⟩
          obtain ⟨stZ, saZ⟩ := sa3.put (o := .lst (xs.set j vv)) (q := .lst (ds.set j v)) hn ⟨_, upd_same, Reps.set ((rv.stp st2).stp st3) j h2⟩
          exact q3 σ _ stZ saZ ((((re.stp st).stp st2).stp st3).stp stZ)
      · exact q3.elim
    · exact q3.elim
  · exact q3.elim
def dPutF (Cs : List Addr) (f : Str) (tv to : DE) : DS := fun e m => rsOf e (tv e m) fun v m1 => rsOf e (to e m1) fun o m2 => match o with
  | .loc n => match m2[n]? with
    | some (.ins C fs) => if C ∈ Cs ∧ fs.length < 1000 then .nx e (m2.set n (.ins C (putD f v fs))) else .stuck
    | _ => .stuck
  | _ => .stuck
theorem put_reps {K : PySem.W.Frag} {ι : List Addr} {F : Hp} {f : Str} {d : D} {v : V} (h : Rep K ι F d v) : ∀ {fs : List (Str × D)} {vs : List (Str × V)}, RepF K ι F fs vs → RepF K ι F (putD f d fs) (putF f v vs)
  | _, _, .nil => .cons h .nil
  | _, _, .cons (f := g) h1 r => by
    unfold putD putF
    split
    · exact .cons h r
    · exact .cons h1 (put_reps h r)
theorem pds_putF {f : Str} {pos' : Pos} {Cs : List Addr} (hv : PDE X a ta) (ho : PDE X o to) (hC : ∀ C ∈ Cs, Cls X.K C ∧ NoAttr X.K C f) (hs : swapsWith a (some (.Attribute o f pos')) pos.line X.env = pure false := by rfl) :
    PDS X (.Assign [.Attribute o f pos'] a pos) (dPutF Cs f ta to) := by
  refine ps_of (ps_fld (mxE X o) (mxE X a) hs) fun S r m σ N sa re p => ?_
  refine hv S r m σ _ sa re (PDE.stm re p fun v m1 vv T st sa1 rv q => ?_)
  refine ho T r m1 σ _ sa1 (re.stp st) (PDE.stm (re.stp st) q fun d m2 vo U st2 sa2 ro q2 => ?_)
  split at q2
  · rename_i n
    split at q2
    · rename_i C fs e1
      split at q2
      · rename_i hc
        cases ro with
        | loc hn =>
          obtain ⟨dx, vs, h1, h2⟩ := sa2.ok n _ _ hn e1
          obtain ⟨c1, c2⟩ := hC C hc.1
          refine ⟨_, C, dx, vs, rfl, h1, c1, c2, by rw [← h2.len]; exact hc.2, ?_⟩
          obtain ⟨stZ, saZ⟩ := sa2.put (o := .ins C dx (putF f vv vs)) (q := .ins C (putD f v fs)) hn ⟨dx, _, upd_same, put_reps (rv.stp st2) h2⟩
          exact q2 σ _ stZ saZ (((re.stp st).stp st2).stp stZ)
      · exact q2.elim
    · exact q2.elim
  · exact q2.elim
end
mutual
def below (n : Nat) : D → Bool
  | .loc k => decide (k < n)
  | .tup ds => belows n ds
  | .lst ds => belows n ds
  | .obj _ ds => belows n ds
  | .xob _ _ => false
  | .lam _ _ => false
  | .clo _ _ => false
  | .dct _ ds => belows n ds
  | _ => true
def belows (n : Nat) : List D → Bool
  | [] => true
  | d :: ds => below n d && belows n ds
end
def Mo.below (n : Nat) : Mo → Bool
  | .lst ds => belows n ds
  | .ins _ fs => belows n (fs.map (·.2))
  | .exo _ none => true
  | .exo _ (some k) => decide (k < n)
  | .exd fs => belows n (fs.map (·.2))
  | .dik kvs => belows n (kvs.map (·.2))
  | .dit kvs => belows n (kvs.map (·.2))
def Cl (m : Mu) : Prop := ∀ o ∈ m, o.below m.length = true
def Wd.cut (Z : Wd) (l : List Addr) : Wd := ⟨l, fun a => if a ∈ Z.i then (if a ∈ l then none else Z.H a) else Z.F a, Z.H⟩
section
variable {K : PySem.W.Frag} {T Z : Wd}
theorem cutF_out {a : Addr} {o : HO} {m : Mu} (sa : Sta K Z m) (h : Z.F a = some o) (l : List Addr) : (Z.cut l).F a = some o := by
  have : a ∉ Z.i := fun z => by rw [sa.dis a z] at h; cases h
  show (if a ∈ Z.i then _ else Z.F a) = some o
  rw [if_neg this]; exact h
mutual
theorem Rep.cut {m : Mu} (sa : Sta K Z m) {l : List Addr} (hl : l <+: Z.i) : ∀ {d : D} {v : V}, Rep K Z.i Z.F d v → below l.length d = true → Rep K l (Z.cut l).F d v
  | _, _, .non, _ => .non
  | _, _, .bl b, _ => .bl b
  | _, _, .int i, _ => .int i
  | _, _, .str x, _ => .str x
  | _, _, .tup h r, hb => .tup (SqT.ext' h fun a o e => cutF_out sa e l) (Reps.cut sa hl r (by unfold below at hb; exact hb))
  | _, _, .lst h r, hb => .lst (SqL.ext' h fun a o e => cutF_out sa e l) (Reps.cut sa hl r (by unfold below at hb; exact hb))
  | _, _, .obj h n r, hb => .obj (cutF_out sa h l) n (Reps.cut sa hl r (by unfold below at hb; exact hb))
  | _, _, .loc (n := k) h, hb => .loc (by
      unfold below at hb
      have hk : k < l.length := of_decide_eq_true hb
      obtain ⟨t, e⟩ := hl
      rw [← e, List.getElem?_append_left hk] at h
      exact h)
  | _, _, .val v, _ => .val v
  | _, _, .xob h n r, hb => by simp [below] at hb
  | _, _, .lam h, hb => by simp [below] at hb
  | _, _, .clo h h2 r, hb => by simp [below] at hb
  | _, _, .dct h n r, hb => .dct (cutF_out sa h l) n (Reps.cut sa hl r (by unfold below at hb; exact hb))
theorem Reps.cut {m : Mu} (sa : Sta K Z m) {l : List Addr} (hl : l <+: Z.i) : ∀ {d : List D} {v : List V}, Reps K Z.i Z.F d v → belows l.length d = true → Reps K l (Z.cut l).F d v
  | _, _, .nil, _ => .nil
  | _, _, .cons h r, hb => by
    unfold belows at hb
    obtain ⟨h1, h2⟩ := Bool.and_eq_true_iff.mp hb
    exact .cons (Rep.cut sa hl h h1) (Reps.cut sa hl r h2)
end
theorem RepF.join : ∀ {fs : List (Str × D)} {vs : List (Str × V)} {i : List Addr} {F : Hp}, vs.map (·.1) = fs.map (·.1) → Reps K i F (fs.map (·.2)) (vs.map (·.2)) → RepF K i F fs vs
  | [], [], _, _, _, _ => .nil
  | [], _ :: _, _, _, h, _ => by simp at h
  | _ :: _, [], _, _, h, _ => by simp at h
  | (f, d) :: fs, (g, v) :: vs, _, _, h, r => by
    simp only [List.map_cons, List.cons.injEq] at h
    obtain ⟨rfl, h⟩ := h
    simp only [List.map_cons] at r
    cases r with
    | cons h1 h2 => exact .cons h1 (RepF.join h h2)
theorem cut_ok {mT m : Mu} (saT : Sta K T mT) (st : Stp T Z) (sa : Sta K Z m) (hb : ∀ o ∈ m.take mT.length, o.below mT.length = true) : Stp T (Z.cut T.i) ∧ Sta K (Z.cut T.i) (m.take mT.length) := by
  have hpre := st.pre
  have hlen : mT.length ≤ m.length := by
    rw [← saT.len, ← sa.len]; exact hpre.length_le
  have sub : ∀ a, a ∈ T.i → a ∈ Z.i := fun a h => hpre.subset h
  refine ⟨⟨List.prefix_refl _, fun a o e => cutF_out sa (st.ext a o e) T.i, fun a o hn h1 h2 h3 => ?_, st.old⟩, saT.nd, ?_, fun a o e => ?_, fun a ha => ?_, fun a ha => sa.tr a (sub a ha), fun n a o h1 h2 => ?_, fun q hq => ?tb⟩
  case tb =>
    obtain ⟨ps, t1, t2, t3, t4, t5⟩ := sa.tb q hq
    exact ⟨ps, t1, by show (if q.1 ∈ Z.i then _ else Z.F q.1) = none; rw [if_neg t3]; exact t2, fun z => t3 (sub _ z), t4, fun pos cv hc => let ⟨c, c1, c2⟩ := t5 pos cv hc; ⟨c, c1, cutF_out sa c2 T.i⟩⟩
  · obtain ⟨k1, k2, k3⟩ := st.frame a o hn h1 h2 h3
    exact ⟨k1, by show (if a ∈ Z.i then _ else Z.F a) = none; rw [if_neg k3]; exact k2, h3⟩
  · show T.i.length = _
    rw [List.length_take, saT.len]
    omega
  · have e : (if a ∈ Z.i then (if a ∈ T.i then none else Z.H a) else Z.F a) = some o := e
    show Z.H a = some o
    split at e
    · split at e
      · cases e
      · exact e
    · exact sa.sub a o e
  · show (if a ∈ Z.i then (if a ∈ T.i then none else Z.H a) else Z.F a) = none
    have ha : a ∈ T.i := ha
    rw [if_pos (sub a ha), if_pos ha]
  · have h1 : T.i[n]? = some a := h1
    have h1' := pre_get hpre h1
    have hn : n < mT.length := by rw [← saT.len]; exact (List.getElem?_eq_some_iff.mp h1).1
    have h2' : m[n]? = some o := by
      rw [List.getElem?_take_of_lt hn] at h2; exact h2
    have hbo := hb o (List.mem_of_getElem? h2)
    have q := sa.ok n a o h1' h2'
    rw [← saT.len] at hbo
    cases o with
    | lst ds => obtain ⟨xs, q1, q2⟩ := q; exact ⟨xs, q1, q2.cut sa hpre hbo⟩
    | ins C fs => obtain ⟨dx, vs, q1, q2⟩ := q; exact ⟨dx, vs, q1, RepF.join q2.split.1 (q2.split.2.cut sa hpre hbo)⟩
    | exo C d =>
      cases d with
      | none => exact q
      | some k =>
        obtain ⟨dx, q1, q2⟩ := q
        have hk : k < T.i.length := of_decide_eq_true hbo
        refine ⟨dx, ?_, q2⟩
        obtain ⟨t, ht⟩ := hpre
        have q1' := q1
        rw [← ht, List.getElem?_append_left hk] at q1'
        exact q1'
    | exd fs => obtain ⟨vs, q1, q2⟩ := q; exact ⟨vs, q1, RepF.join q2.split.1 (q2.split.2.cut sa hpre hbo)⟩
    | dik kvs => obtain ⟨vs, q1, q0, q2⟩ := q; exact ⟨vs, q1, q0, q2.cut sa hpre hbo⟩
    | dit kvs => obtain ⟨vs, q1, q0, q2⟩ := q; exact ⟨vs, q1, q0, q2.cut sa hpre hbo⟩
theorem cut_at {mT m : Mu} (saT : Sta K T mT) (st : Stp T Z) (sa : Sta K Z m) {n : Nat} {a : Addr} (hn : mT.length ≤ n) (h : Z.i[n]? = some a) : (Z.cut T.i).F a = Z.H a := by
  have ha : a ∈ Z.i := List.mem_of_getElem? h
  have hna : a ∉ T.i := fun z => by
    obtain ⟨j, hj⟩ := List.getElem?_of_mem z
    have hj' := pre_get st.pre hj
    obtain ⟨l1, e1⟩ := List.getElem?_eq_some_iff.mp hj'
    obtain ⟨l2, e2⟩ := List.getElem?_eq_some_iff.mp h
    have := (List.getElem_inj sa.nd).mp (e1.trans e2.symm)
    have := (List.getElem?_eq_some_iff.mp hj).1
    rw [saT.len] at this
    omega
  show (if a ∈ Z.i then (if a ∈ T.i then none else Z.H a) else Z.F a) = Z.H a
  rw [if_pos ha, if_neg hna]
end
section
variable {X : Cx} {e o : Expr} {es : List Expr} {t : DA} {pos p : Pos} {x : Str} {k : Nat} {C : Addr} {G : DFn}
structure KT (P : Program) (w : World) (K : PySem.W.Frag) (mg : Str → Option Value) (base : Heap) (k : Nat) (x : Str) (C : Addr) (G : DFn) : Prop where
  mgx : mg x = some (.ref C)
  ex : ∃ (f : Addr) (fd : FuncData) (ps : List Str) (dds : List D) (G0 : DFn), Mk K C f ∧ FnD P w K mg base k f fd ps G0 ∧ Bd K fd ps dds ∧ G = padF ps.length dds G0
open Classical in
noncomputable def mkObj (C : Addr) (m : Mu) (r : Res D) : Res D := match r with
  | .ok .non m2 => match m2[m.length]? with
    | some (.ins C' fs) => if C' = C ∧ m2 = m ++ [.ins C' fs] ∧ Cl m ∧ belows m.length (fs.map (·.2)) = true then .ok (.obj ⟨C, fs.map (·.1)⟩ (fs.map (·.2))) m else .stuck
    | _ => .stuck
  | .exc C' fs m2 => .exc C' fs m2
  | _ => .stuck
noncomputable def dMake (C : Addr) (G : DFn) (t : DA) : DE := fun e m => (t e m).bind fun ds m1 => mkObj C m1 (G (.loc m1.length :: ds) (m1 ++ [.ins C []]))
theorem run_mk {pins : List (Addr × Obj)} {σ : L2.St} {T : Wd} {m : Mu} {s : Shared} {Q : VK} {us : List Value} {vs : List V} {das : List D} (F : KT X.prog X.w X.K X.mg X.base k x C G) (hr : Room (k + 1) X.A)
    (I : Inv X pins σ T.H s) (sa : Sta X.K T m) (r : Reps X.K T.i T.F das vs) (rv : Vals vs us) (h : PostD X.K T (mkObj C m (G (.loc m.length :: das) (m ++ [.ins C []]))) Q (fun c d H => Fly X c d σ H)) :
    wpAny (model X.prog X.w) X.A (call (.ref C) us) (EP X pins σ Q) X.xe s := by
  obtain ⟨f, fd, ps, dds, G0, M, hf, hb, rfl⟩ := F.ex
  obtain ⟨dsv, dvs, hb1, hd1, hD⟩ := hb.ex
  -- the new instance and its dict
  have nx : T.H (s.heap.objs.size + 1) = none := I.hok.fresh (Nat.le_succ _)
  have ndx : T.H s.heap.objs.size = none := I.hok.fresh (Nat.le_refl _)
  have ne : s.heap.objs.size ≠ s.heap.objs.size + 1 := Nat.ne_of_lt (Nat.lt_succ_self _)
  have I2 := Inv.made (C := C) I
  have st1 := Stp.new sa (o := .own (s.heap.objs.size + 1)) ndx
  have sa1 := sa.new (o := .own (s.heap.objs.size + 1)) ndx
  have nx1 : (T.new s.heap.objs.size (.own (s.heap.objs.size + 1))).H (s.heap.objs.size + 1) = none := by
    show upd T.H _ _ _ = none
    rw [upd_ne ne.symm]; exact nx
  have st2 := Stp.tok sa1 (o := .ins C s.heap.objs.size []) nx1
  have sa2 := sa1.tok (o := .ins C s.heap.objs.size []) nx1 (q := .ins C []) ⟨s.heap.objs.size, [], upd_same, .nil⟩
  have st12 := st1.trans st2
  generalize hT2 : (T.new s.heap.objs.size (.own (s.heap.objs.size + 1))).tok (s.heap.objs.size + 1) (.ins C s.heap.objs.size []) = T2 at st2 sa2 st12
  have hH2 : T2.H = upd (upd T.H s.heap.objs.size (.own (s.heap.objs.size + 1))) (s.heap.objs.size + 1) (.ins C s.heap.objs.size []) := by rw [← hT2]; rfl
  have hi2 : T2.i = T.i ++ [s.heap.objs.size + 1] := by rw [← hT2]; rfl
  have hloc : T2.i[m.length]? = some (s.heap.objs.size + 1) := by
    rw [hi2, ← sa.len, List.getElem?_append_right (Nat.le_refl _), Nat.sub_self]; rfl
  have r1 : Reps X.K T2.i T2.F (.loc m.length :: (das ++ dds)) (V.ref (s.heap.objs.size + 1) :: (vs ++ dvs)) := .cons (.loc hloc) ((r.stp st12).append (hD _ _))
  have r2 : Vals (V.ref (s.heap.objs.size + 1) :: (vs ++ dvs)) (Value.ref (s.heap.objs.size + 1) :: (us ++ dsv)) := .cons rfl (rv.append hd1)
  unfold padF at h
  have hcons : D.loc m.length :: das ++ dds = D.loc m.length :: (das ++ dds) := rfl
  rw [hcons] at h
  split at h
  · rename_i hl
    have hlv : (V.ref (s.heap.objs.size + 1) :: (vs ++ dvs)).length = ps.length := by rw [← r1.len]; exact hl
    have hl2 : (Value.ref (s.heap.objs.size + 1) :: us ++ dsv).length = ps.length := by
      have e := r2.length
      rw [hlv] at e
      exact e.symm
    rw [← hH2] at I2
    have hsp : spD X.K ps.length G0 (V.ref (s.heap.objs.size + 1) :: (vs ++ dvs)) T2.H (fun v H2 => v = .non ∧ Q (.ref (s.heap.objs.size + 1)) H2) (fun c d H => Fly X c d σ H) := by
      refine ⟨hlv, T2, m ++ [.ins C []], _, rfl, sa2, r1, ?_⟩
      cases hG : G0 (D.loc m.length :: (das ++ dds)) (m ++ [.ins C []]) with
      | stuck => rw [hG] at h; exact (show False from h).elim
      | exc C' fs m2 =>
        rw [hG] at h
        exact fun dd vs' Z stZ hn saZ h1 h2 => h dd vs' Z (st12.trans stZ) (st12.old dd hn) saZ h1 h2
      | ok dv m2 =>
        rw [hG] at h
        intro v Z stZ saZ rdv
        unfold mkObj at h
        split at h
        · rename_i heq
          cases heq
          cases rdv
          refine ⟨rfl, ?_⟩
          split at h
          · rename_i C' fs e1
            split at h
            · rename_i hc
              obtain ⟨rfl, hm2, hcl, hbel⟩ := hc
              have hzi := pre_get stZ.pre hloc
              obtain ⟨dx, vv, q1, q2⟩ := saZ.ok _ _ _ hzi e1
              have htk : m2.take m.length = m := by rw [hm2]; simp
              have stTZ := st12.trans stZ
              obtain ⟨c1, c2⟩ := cut_ok sa stTZ saZ (by rw [htk]; exact hcl)
              rw [htk] at c2
              have hbel' : belows T.i.length (fs.map (·.2)) = true := by rw [sa.len]; exact hbel
              refine h (.ref (s.heap.objs.size + 1)) (Z.cut T.i) c1 c2 (.obj (dx := dx) (vs := vv) ?_ q2.split.1 (q2.split.2.cut saZ stTZ.pre hbel'))
              rw [cut_at sa stTZ saZ (Nat.le_refl _) hzi]
              exact q1
            · exact h.elim
          · exact h.elim
        · rename_i heq; cases heq
        · exact h.elim
    refine wpAny_call (make_map (f := f) I.kIn M.makes M.init (beq_iff_eq.mp M.fn) (codeAny_mono (hf.run _ X.stack _ _ ⟨Value.ref (s.heap.objs.size + 1) :: us, []⟩ (Value.ref (s.heap.objs.size + 1) :: (us ++ dsv)) _ _ _ (hr.make C us [])
      (I2.env0.make C us []) (hb1 _ (Value.ref (s.heap.objs.size + 1) :: us) I2.kIn hl2) r2 hsp) fun r s' hq' => ?_))
    cases r with
    | error e =>
      obtain ⟨a, B, sI, pins', σ', H', cls, d, e1, I', nb, up, sky, na, os, ag, e2, fl⟩ := XE.of_call I2 (W := fun c d σ' H => σ' = σ ∧ Fly X c d σ H) (fun cls d H' h => ⟨rfl, h⟩) hq'
      exact fl e s' ⟨a, B, sI, pins', σ', H', cls, d, e1, I', nb, up, sky, na, os, ag, rfl, rfl, e2, rfl⟩
    | ok fl =>
      cases fl with
      | ret u =>
        obtain ⟨v, H', I3, rv3, ev, q3⟩ := I2.after hq'
        subst ev
        exact ⟨rv3, ⟨V.ref (s.heap.objs.size + 1), H', I3, rfl, q3⟩⟩
      | next => exact False.elim hq'
      | brk => exact False.elim hq'
      | cont => exact False.elim hq'
  · exact (show False from h).elim
theorem pd_make (F : KT X.prog X.w X.K X.mg X.base k x C G) (hr : Room (k + 1) X.A) (ha : PDA X (e :: es) t)
    (hg : Gl X x := by rfl) (hdb : (x == ("__debug__" : Str)) = false := by decide) (he : starEach (e :: es) X.env = (false, eval e X.env) :: starEach es X.env := by exact se_cons _ _ _ rfl) (hpl : (backTo pos (starEach es X.env)).any (·.1) = false := by exact se_any _ _ _ rfl) :
    PDE X (.Call (.Name x p) (e :: es) [] pos) (dMake C G t) := by
  intro S r m σ Q sa re q pins s I
  refine wpAny_Call_Name_kw (ld_glob I hg F.mgx ?_ hdb)
  obtain ⟨_, _, _, _, _, M, _⟩ := F.ex
  refine PySem.W.callWith_K (h₀ := X.base) I.ok.mod.kin M.kp (thn (ha.run sa re q I pos) ?_) he hpl
  rintro us s1 ⟨xs, ds, m1, T, st, sa1, rds, rv, I1, q1⟩
  exact ⟨I1.kIn, run_mk F hr I1 sa1 rds rv q1⟩
end
end DL

namespace DL
open PySem PySem.Spec PyProof.Rows L2
variable [LamTab]
inductive Tg where
  | prim (n : String)
  | own (C : Addr)
  deriving DecidableEq
def Tg.val : Tg → Value
  | .prim n => .type n
  | .own C => .ref C
def tagOf (m : Mu) : D → Option Tg
  | .non => some (.prim "NoneType")
  | .bl _ => some (.prim "bool")
  | .int _ => some (.prim "int")
  | .str _ => some (.prim "str")
  | .tup _ => some (.prim "tuple")
  | .lst _ => some (.prim "list")
  | .obj c _ => some (.own c.a)
  | .loc n => match m[n]? with
    | some (.lst _) => some (.prim "list")
    | some (.ins C _) => some (.own C)
    | _ => none
  | _ => none
structure InsK (K : PySem.W.Frag) (C : Addr) : Prop where
  cl : Cls K C
  ha : PySem.W.findIn K (.ref C) "__class__" = some (some (.builtin "object.__class__"))
  hn : PySem.W.specialIn K (.builtin "object.__class__") "__get__" = some (some (.builtin "getset_descriptor.__get__"))
  htk : PySem.W.takesIn K (.builtin "object.__class__") = some true
  hm : PySem.W.mroIn K C (.type "object") = some true
structure Ans where
  prim : List String
  own : List (Addr × Bool)
def primNames : List String := ["NoneType", "bool", "int", "str", "tuple", "list"]
def Ans.get (A : Ans) : Tg → Option Bool
  | .prim n => if n ∈ primNames then some (decide (n ∈ A.prim)) else none
  | .own C => A.own.lookup C
structure AnsOk (K : PySem.W.Frag) (A : Ans) (us : List Value) : Prop where
  prim : ∀ n ∈ primNames, PySem.W.kitAny K (.type n) us = some (decide (n ∈ A.prim))
  own : ∀ p ∈ A.own, PySem.W.kitAny K (.ref p.1) us = some p.2 ∧ InsK K p.1
theorem lookup_mem {α : Type} {C : Addr} {b : α} : ∀ {l : List (Addr × α)}, l.lookup C = some b → (C, b) ∈ l
  | (D, x) :: r, h => by
    rw [List.lookup_cons] at h
    cases hb : C == D with
    | true =>
      rw [hb] at h
      cases h
      rw [beq_iff_eq.mp hb]; exact List.mem_cons_self
    | false => rw [hb] at h; exact List.mem_cons_of_mem _ (lookup_mem h)
theorem kitOne_any {K : PySem.W.Frag} {t u : Value} {b : Bool} (h : PySem.W.kitAny K t [u] = some b) : PySem.W.kitOne K t u = some b := by
  unfold PySem.W.kitAny at h
  cases q : PySem.W.kitOne K t u with
  | none => rw [q] at h; cases h
  | some c =>
    rw [q] at h
    cases c with
    | true => cases h; rfl
    | false => cases h; rfl
section
variable {K : PySem.W.Frag} {S : Wd} {m : Mu}
theorem SqT.tyx {H : Hp} {a : Addr} {xs : List V} (h : SqT K H a xs) : TyX K H (.ref a) (.type "tuple") := by
  rcases h with (h | ⟨o, h⟩) | ⟨o, its, n, h, hc, _⟩
  · exact .base (.tup h)
  · exact .fTuple h
  · exact .kTuple h hc
theorem SqL.tyx {H : Hp} {a : Addr} {xs : List V} (h : SqL K H a xs) : TyX K H (.ref a) (.type "list") := by
  rcases h with (h | ⟨o, h⟩) | ⟨o, its, n, h, hc, _⟩
  · exact .base (.lst h)
  · exact .base (.frz h)
  · exact .kList h hc
theorem tag_ok {A : Ans} {us : List Value} (hA : AnsOk K A us) {d : D} {v : V} {t : Tg} {b : Bool} (sa : Sta K S m) (r : Rep K S.i S.F d v) (ht : tagOf m d = some t) (hb : A.get t = some b) : ∃ ty, TyX K S.H v ty ∧ PySem.W.kitAny K ty us = some b := by
  have pr : ∀ {n : String}, Tg.prim n = t → PySem.W.kitAny K (.type n) us = some b := fun {n} e => by
    subst e
    unfold Ans.get at hb
    dsimp only at hb
    split at hb
    · rename_i hn
      cases hb
      exact hA.prim n hn
    · cases hb
  have ow : ∀ {C : Addr}, Tg.own C = t → PySem.W.kitAny K (.ref C) us = some b ∧ InsK K C := fun {C} e => by
    subst e
    exact hA.own (C, b) (lookup_mem hb)
  cases r with
  | non => cases ht; exact ⟨_, .base .non, pr rfl⟩
  | bl x => cases ht; exact ⟨_, .base (.bl x), pr rfl⟩
  | int x => cases ht; exact ⟨_, .base (.int x), pr rfl⟩
  | str x => cases ht; exact ⟨_, .base (.str x), pr rfl⟩
  | tup h1 h2 => cases ht; exact ⟨_, SqT.tyx (SqT.ext' h1 sa.sub), pr rfl⟩
  | lst h1 h2 => cases ht; exact ⟨_, SqL.tyx (SqL.ext' h1 sa.sub), pr rfl⟩
  | obj h1 h2 h3 =>
    cases ht
    obtain ⟨k1, k2⟩ := ow rfl
    exact ⟨_, .base (.ins (sa.sub _ _ h1) k2.cl k2.ha k2.hn k2.htk k2.hm), k1⟩
  | @loc n a h =>
    unfold tagOf at ht
    dsimp only at ht
    split at ht
    · rename_i ds e
      cases ht
      obtain ⟨xs, q1, q2⟩ := sa.ok n a _ h e
      exact ⟨_, .base (.lst q1), pr rfl⟩
    · rename_i C fs e
      cases ht
      obtain ⟨dx, vs, q1, q2⟩ := sa.ok n a _ h e
      obtain ⟨k1, k2⟩ := ow rfl
      exact ⟨_, .base (.ins q1 k2.cl k2.ha k2.hn k2.htk k2.hm), k1⟩
    · cases ht
  | val v => cases ht
  | xob h1 h2 h3 => cases ht
  | lam h => cases ht
  | clo h h2 h3 => cases ht
  | dct h h2 h3 => cases ht
end
section
variable {X : Cx} {a e o c : Expr} {es : List Expr} {ta : DE} {t : DA} {pos p q : Pos} {x : Str}
def dIsi (A : Ans) (ta : DE) : DE := fun e m => (ta e m).bind fun d m1 => match (tagOf m1 d).bind A.get with
  | some b => .ok (.bl b) m1
  | none => .stuck
theorem isi_fin {A : Ans} {us : List Value} (hA : AnsOk X.K A us) {d : D} {m : Mu} {T : Wd} {Q : VK} {W : XK} {v : V} (sa : Sta X.K T m) (rd : Rep X.K T.i T.F d v)
    (h : PostD X.K T (match (tagOf m d).bind A.get with
      | some b => .ok (.bl b) m
      | none => .stuck) Q W) : ∃ b ty, TyX X.K T.H v ty ∧ PySem.W.kitAny X.K ty us = some b ∧ ∀ Z, Stp T Z → Sta X.K Z m → Q (.bl b) Z.H := by
  cases q1 : tagOf m d with
  | none => rw [q1] at h; exact (show False from h).elim
  | some t =>
    rw [q1] at h
    cases q2 : A.get t with
    | none => rw [show (some t).bind A.get = A.get t from rfl, q2] at h; exact (show False from h).elim
    | some b =>
      rw [show (some t).bind A.get = A.get t from rfl, q2] at h
      obtain ⟨ty, k1, k2⟩ := tag_ok hA sa rd q1 q2
      exact ⟨b, ty, k1, k2, fun Z st sZ => h (.bl b) Z st sZ (.bl b)⟩
theorem pd_isi {A : Ans} {u : Value} {cv : V} (ha : PDE X a ta) (hcv : ClsV cv u) (hc : PDE X c (dC (.val cv))) (hA : AnsOk X.K A [u]) (hm : X.mg "isinstance" = none) (hg : Gl X "isinstance" := by rfl)
    (hs : starEach [a, c] X.env = (false, eval a X.env) :: starEach [c] X.env := by rfl) (hs2 : starEach [c] X.env = (false, eval c X.env) :: starEach [] X.env := by rfl) (hpl : (backTo pos (starEach [c] X.env)).any (·.1) = false := by rfl) :
    PDE X (.Call (.Name "isinstance" p) [a, c] [] pos) (dIsi A ta) := by
  refine pd_of (pe_callB call_isi hg hm (by decide +kernel) (pa_cons (mxE X a) (pa_cons (mxE X c) pa_nil hs2) hs) (by decide) (by decide) hs hpl) fun S r m σ Q sa re p => ?_
  refine ha S r m σ _ sa re (Post.bindI p fun d m1 v T st sa1 rd q => ?_)
  refine hc T r m1 σ _ sa1 (re.stp st) ?_
  intro w Z st2 sa2 rw
  cases rw
  obtain ⟨b, ty, k1, k2, k3⟩ := isi_fin hA sa2 (rd.stp st2) (Post.step st2 q)
  exact ⟨v, cv, ty, u, b, rfl, hcv, k1, kitOne_any k2, k3 Z (Stp.refl Z) sa2⟩
theorem pd_isiT {A : Ans} {us : List Value} {cvs : List V} {cs : List Expr} {kk : Nat} (ha : PDE X a ta) (hcv : Paired ClsV cvs us) (hc : PDA X cs (fun _ m => .ok (cvs.map .val) m)) (hl : cvs.length ≤ sizeLine) (hA : AnsOk X.K A us) (hm : X.mg "isinstance" = none) (hg : Gl X "isinstance" := by rfl)
    (hs : starEach [a, .Tuple cs kk q] X.env = (false, eval a X.env) :: starEach [.Tuple cs kk q] X.env := by rfl) (hs2 : starEach [.Tuple cs kk q] X.env = (false, eval (.Tuple cs kk q) X.env) :: starEach [] X.env := by rfl) (hpl : (backTo pos (starEach [.Tuple cs kk q] X.env)).any (·.1) = false := by rfl) :
    PDE X (.Call (.Name "isinstance" p) [a, .Tuple cs kk q] [] pos) (dIsi A ta) := by
  refine pd_of (pe_callB call_isiT hg hm (by decide +kernel) (pa_cons (mxE X a) (pa_cons (pe_tup (mxA X cs)) pa_nil hs2) hs) (by decide) (by decide) hs hpl) fun S r m σ Q sa re p => ?_
  refine ha S r m σ _ sa re (Post.bindI p fun d m1 v T st sa1 rd qq => ?_)
  refine hc T r m1 σ _ sa1 (re.stp st) ?_
  intro ws Z st2 sa2 rw
  have hws : ∀ {l : List V} {ws : List V}, Reps X.K Z.i Z.F (l.map D.val) ws → ws = l := by
    intro l
    induction l with
    | nil => intro ws r; cases r; rfl
    | cons y l ih =>
      intro ws r
      cases r with
      | cons h1 h2 => cases h1; rw [ih h2]
  have e := hws rw
  subst e
  refine ⟨hl, fun n hn => ?_⟩
  have st3 := Stp.new sa2 (o := .tup ws) hn
  have sa3 := sa2.new (o := .tup ws) hn
  obtain ⟨b, ty, k1, k2, k3⟩ := isi_fin hA sa3 ((rd.stp st2).stp st3) (Post.step (st2.trans st3) qq)
  exact ⟨v, n, ws, ty, us, b, rfl, upd_same, hcv, k1, k2, k3 _ (Stp.refl _) sa3⟩
def pick (pl : List Nat) (ds : List D) : Option (List D) := match pl with
  | [] => some []
  | i :: r => match ds[i]? with
    | some d => match pick r ds with
      | some xs => some (d :: xs)
      | none => none
    | none => none
structure BK (K : PySem.W.Frag) (fd : FuncData) (ps : List Str) (n : Nat) (ks : List Str) (pl : List Nat) (dds : List D) : Prop where
  ex : ∃ (ds : List Value) (dvs : List V), Vals dvs ds ∧ (∀ (i : List Addr) (F : Hp), Reps K i F dds dvs) ∧
    ∀ (s : Shared) (us ws : List Value), K.In s.heap → us.length = n → ws.length = ks.length → BindsTo s fd ⟨us, ks.zip ws⟩ (ps.zip (pl.filterMap fun i => (us ++ ws ++ ds)[i]?)) ∧ (pl.filterMap fun i => (us ++ ws ++ ds)[i]?).length = ps.length
theorem pick_reps {K : PySem.W.Frag} {ι : List Addr} {F : Hp} {ds : List D} {vs : List V} (r : Reps K ι F ds vs) : ∀ {pl : List Nat} {xs : List D}, pick pl ds = some xs → Reps K ι F xs (pl.filterMap fun i => vs[i]?)
  | [], xs, h => by cases h; exact .nil
  | i :: pl, xs, h => by
    unfold pick at h
    cases q : ds[i]? with
    | none => rw [q] at h; cases h
    | some d =>
      cases q2 : pick pl ds with
      | none => rw [q, q2] at h; cases h
      | some ys =>
        rw [q, q2] at h; cases h
        obtain ⟨v, hv, rv⟩ := r.get q
        rw [List.filterMap_cons, hv]
        exact .cons rv (pick_reps r q2)
theorem vals_pick {vs : List V} {us : List Value} (r : Vals vs us) : ∀ (pl : List Nat), Vals (pl.filterMap fun i => vs[i]?) (pl.filterMap fun i => us[i]?)
  | [] => .nil
  | i :: pl => by
    rw [List.filterMap_cons, List.filterMap_cons]
    cases q : vs[i]? with
    | none =>
      rw [r.none_of q]
      exact vals_pick r pl
    | some v =>
      obtain ⟨u, hu, ru⟩ := r.get q
      rw [hu]
      exact .cons ru (vals_pick r pl)
def PDK (X : Cx) (kws : List Keyword) (t : DA) : Prop := ∀ S r m σ Q, Sta X.K S m → RelE X.K S r σ → PostL X.K S (t r m) Q (fun c d H => Fly X c d σ H) →
  ∀ (pos : Pos) (pins : List (Addr × Obj)) (s : Shared), Inv X pins σ S.H s → wpAny (model X.prog X.w) X.A (evalAll ((backToKw pos (keywordEach kws X.env)).map (·.2))) (AP X pins σ Q) X.xe s
theorem pdk_nil : PDK X [] dNil := fun S r m σ Q sa re p pos pins s I => (pk_nil (X := X)).run pos pins s σ S.H Q I (Post.ok p (Stp.refl S) sa .nil)
theorem pdk_cons {nm : Option Str} {kpos : Pos} {kws : List Keyword} (ha : PDE X a ta) (hr : PDK X kws t) : PDK X (⟨nm, a, kpos⟩ :: kws) (dCons ta t) := by
  intro S r m σ Q sa re p pos pins s I
  refine (pk_cons (mxE X a) (t := fun σ H Q => ∀ (pos : Pos) (pins : List (Addr × Obj)) (s : Shared), Inv X pins σ H s → wpAny (model X.prog X.w) X.A (evalAll ((backToKw pos (keywordEach kws X.env)).map (·.2))) (AP X pins σ Q) X.xe s) ⟨fun pos pins s σ H Q I h => h pos pins s I⟩).run pos pins s σ S.H Q I ?_
  refine ha S r m σ _ sa re (Post.bindI p fun d m1 v T st sa1 rd q => ?_)
  refine hr T r m1 σ _ sa1 (re.stp st) (Post.bindI q fun ds m2 vs U st2 sa2 rds q2 => ?_)
  exact Post.ok q2 (Stp.refl U) sa2 (.cons (rd.stp st2) rds)
def dFunK (G : DFn) (n nk : Nat) (t u : DA) : DE := fun e m => (t e m).bind fun ds m1 => (u e m1).bind fun zs m2 => if ds.length = n ∧ zs.length = nk then G (ds ++ zs) m2 else .stuck
theorem PDK.run {γ δ : Type} {R' : Wd → γ → δ → Prop} {kws : List Keyword} (ha : PDK X kws t) {S : Wd} {r : En} {m : Mu} {σ : L2.St} {f : List D → Mu → Res γ} {Q : δ → Hp → Prop} (sa : Sta X.K S m) (re : RelE X.K S r σ)
    (p : Post R' X.K S ((t r m).bind f) Q (fun c d H => Fly X c d σ H)) {pins : List (Addr × Obj)} {s : Shared} (I : Inv X pins σ S.H s) (pos : Pos) :
    wpAny (model X.prog X.w) X.A (evalAll ((backToKw pos (keywordEach kws X.env)).map (·.2))) (fun us s1 => ∃ (xs : List V) (ds : List D) (m1 : Mu) (T : Wd), Stp S T ∧ Sta X.K T m1 ∧ Reps X.K T.i T.F ds xs ∧ Vals xs us ∧ Inv X pins σ T.H s1 ∧ Post R' X.K T (f ds m1) Q (fun c d H => Fly X c d σ H)) X.xe s := by
  refine thn (ha S r m σ _ sa re (Post.bindI p (Q' := fun v H => ∃ d m1 T, H = T.H ∧ Stp S T ∧ Sta X.K T m1 ∧ Reps X.K T.i T.F d v ∧ Post R' X.K T (f d m1) Q (fun c d H => Fly X c d σ H)) fun d m1 v T st sa1 r1 q => ⟨d, m1, T, rfl, st, sa1, r1, q⟩) pos pins s I) ?_
  rintro us s1 ⟨xs, H1, I1, r1, d, m1, T, rfl, st, sa1, rd, q⟩
  exact ⟨xs, d, m1, T, st, sa1, rd, r1, I1, q⟩
theorem run_fnK {k : Nat} {n : Nat} {ks : List Str} {G0 : DFn} {f : Addr} {fd : FuncData} {ps : List Str} {pl : List Nat} {dds : List D} {pins : List (Addr × Obj)} {σ : L2.St} {S : Wd} {m : Mu} {s : Shared} {Q : VK} {us ws : List Value} {vs zs : List V} {das dzs : List D} (hf : FnD X.prog X.w X.K X.mg X.base k f fd ps G0) (hr : Room k X.A) (hb : BK X.K fd ps n ks pl dds)
    (I : Inv X pins σ S.H s) (sa : Sta X.K S m) (r : Reps X.K S.i S.F das vs) (rz : Reps X.K S.i S.F dzs zs) (rv : Vals vs us) (rw : Vals zs ws) (hn : das.length = n) (hk : dzs.length = ks.length) {xs : List D} (hp : pick pl ((das ++ dzs) ++ dds) = some xs)
    (h : PostD X.K S (G0 xs m) Q (fun c d H => Fly X c d σ H)) : wpAny (model X.prog X.w) X.A (call (.ref f) us (ks.zip ws)) (EP X pins σ Q) X.xe s := by
  obtain ⟨dsv, dvs, hd, hD, hB⟩ := hb.ex
  have l1 : us.length = n := by rw [← rv.length, ← r.len]; exact hn
  have l2 : ws.length = ks.length := by rw [← rw.length, ← rz.len]; exact hk
  obtain ⟨b1, b2⟩ := hB s us ws I.kIn l1 l2
  have r1 := pick_reps ((r.append rz).append (hD S.i S.F)) hp
  have r2 := vals_pick ((rv.append rw).append hd) pl
  have hlv : (pl.filterMap fun i => (vs ++ zs ++ dvs)[i]?).length = ps.length := by rw [r2.length]; exact b2
  refine wpAny_call (codeAny_mono (hf.run X.A X.stack s S.H ⟨us, ks.zip ws⟩ _ _ Q (fun c d H => Fly X c d σ H) hr I.env0 b1 r2 ⟨hlv, S, m, xs, rfl, sa, r1, h⟩) fun r s' hq => ?_)
  cases r with
  | error e =>
    obtain ⟨a, B, sI, pins', σ', H', cls, d, e1, I', nb, up, sky, na, os, ag, e2, fl⟩ := XE.of_call I (W := fun c d σ' H => σ' = σ ∧ Fly X c d σ H) (fun cls d H' h => ⟨rfl, h⟩) hq
    exact fl e s' ⟨a, B, sI, pins', σ', H', cls, d, e1, I', nb, up, sky, na, os, ag, rfl, rfl, e2, rfl⟩
  | ok fl =>
    cases fl with
    | ret u => exact I.after hq
    | next => exact False.elim hq
    | brk => exact False.elim hq
    | cont => exact False.elim hq
end
end DL

namespace DL
open PySem PySem.Spec PyProof.Rows L2
variable [LamTab]
section
variable {P : Program} {w : World} {K : PySem.W.Frag} {mg : Str → Option Value} {base : Heap}
theorem MT.mono {j k : Nat} {mn : Str} {C : Addr} {G : DFn} (h : MT P w K mg base j mn C G) (hk : j ≤ k) : MT P w K mg base k mn C G := by
  obtain ⟨f, fd, ps, dds, G0, h1, h2, h3, h4, h5, h6⟩ := h.ex
  exact ⟨f, fd, ps, dds, G0, h1, h2, h3, h4.mono hk, h5, h6⟩
theorem bd_of {fd : FuncData} {ps : List Str} {dvs : List V} {dds : List D} (h : ∃ ds, Vals dvs ds ∧ Binds K fd ps ds) (r : ∀ (i : List Addr) (F : Hp), Reps K i F dds dvs) : Bd K fd ps dds := by
  obtain ⟨ds, h1, h2⟩ := h
  exact ⟨ds, dvs, h2, h1, r⟩
theorem dfl_nil {dV : Value} (h : DflV K dV []) : dV = .none := by
  rcases h with ⟨_, h⟩ | ⟨h, _⟩
  · exact h
  · exact absurd rfl h
theorem pdss_stuck {X : Cx} {sts : List Stmt} : PDSs X sts dStuck := fun S r m σ N sa re p => p.elim
theorem fnD_none {x qual : Str} {params : Arguments} {body : List Stmt} {scope : Scope} {dvs : List V} {kws : List (Str × V)} {f : Addr} {fd : FuncData} {N ps : List Str} (F : FunD K x qual params body scope dvs kws f fd) (S : FnScope N ps scope) :
    FnD P w K mg base 1 f fd ps (fun _ _ => .stuck) := FnD.imp' (fnD_of (k := 0) (t := dStuck) F S fun cdv A outer s H E hr => pdss_stuck) fun ds m h => absurd rfl h
def noTbl (H : Hp) : Hp := fun b => match H b with
  | some (.tbl _) => none
  | o => o
def spLaw (K : PySem.W.Frag) : Sp := fun vs H Q _ => ∃ (a : Addr) (ns : List Int), vs = [.ref a] ∧ SqL K H a (ns.map V.int) ∧ ns.length ≤ 63 ∧ (∀ p ∈ LamTab.tbls K, H p.1 = some (.tbl #[])) ∧ ∀ H', Q (.bl true) H'
theorem reps_ints {ι : List Addr} {F : Hp} : ∀ (ns : List Int), Reps K ι F (ns.map D.int) (ns.map V.int)
  | [] => .nil
  | n :: ns => .cons (.int n) (reps_ints ns)
theorem law_sp {k : Nat} {f : Addr} {fd : FuncData} {x : Str} {F : DFn} (h : FnD P w K mg base k f fd [x] F) (ht : ∀ ns : List Int, ns.length ≤ 63 → ∃ m, F [.lst (ns.map .int)] [] = .ok (.bl true) m) : FnOk P w K mg base (L2.CX P w) k f fd [x] (spLaw K) := by
  refine FnOk.imp h fun vs H Q E hs => ?_
  obtain ⟨a, ns, rfl, hS, hl, hT, hq⟩ := hs
  obtain ⟨m, e⟩ := ht ns hl
  have ex : Ext (noTbl H) H := fun b o e => by
    unfold noTbl at e
    split at e
    · cases e
    · exact e
  have hS' : SqL K (noTbl H) a (ns.map V.int) := by
    rcases hS with (h | ⟨o, h⟩) | h
    · exact .inl (.inl (by unfold noTbl; rw [h]))
    · exact .inl (.inr ⟨o, by unfold noTbl; rw [h]⟩)
    · exact .inr h
  refine ⟨rfl, ⟨[], noTbl H, H⟩, [], [.lst (ns.map .int)], rfl, ⟨List.nodup_nil, rfl, ex, fun a h => (nomatch h), fun a h => (nomatch h), fun n a o h => by simp at h, fun p hp => ⟨#[], hT p hp, by show noTbl H p.1 = none; unfold noTbl; rw [hT p hp], (fun z => nomatch z), True.intro, fun pos cv hc => by
      have z : codeAmong pos [] = some cv := hc
      simp [codeAmong] at z⟩⟩, .cons (.lst hS' (reps_ints ns)) .nil, ?_⟩
  rw [e]
  intro v T st sa r
  cases r
  exact hq _
theorem nofly {outer : List Env} {H : Hp} {s s' : Shared} {e : Value} (z : L2.CX P w outer H s (fun _ _ _ => False) e s') : False := by
  obtain ⟨_, _, _, _, _, _, _, _, _, _, _, _, z⟩ := z
  exact z
end
section
variable {X : Cx} {a b c : Expr} {ta tb tc : DE} {t : DA} {pos : Pos}
def dPar3 (i j l : Nat) (t : DA) : DS := fun e m => match t e m with
  | .ok [x, y, z] m1 => .nx (((e.set i (some x)).set j (some y)).set l (some z)) m1
  | .exc C fs m1 => .exc C fs e m1
  | _ => .stuck
theorem pdt_chain {op op' : CmpOp} {g h : D2} (ho : OD X (compareOp op) g) (ho' : OD X (compareOp op') h) (ha : PDE X a ta) (hb : PDE X b tb) (hc : PDE X c tc)
    (hm : lastMarks [op, op'] [b, c] = false := by with_unfolding_all rfl) : PDT X (.Compare a [op, op'] [b, c] pos) (dTst (dChain g h ta tb tc)) := by
  intro S r m σ Q sa re p pins s I
  have p : PostD X.K S (dChain g h ta tb tc r m) (fun v H => ∃ b, v = .bl b ∧ Q b H) (fun c d H => Fly X c d σ H) := EP.bool (pins := pins) (σ := σ) p
  refine isTrue_chain (thn (ha.run sa re p I) ?_) hm
  rintro v s1 ⟨x, d, m1, T, st, sa1, rd, r1, I1, q⟩
  refine test_link (thn (hb.run sa1 (re.stp st) q I1) ?_)
  rintro u s2 ⟨y, d', m2, U, st2, sa2, rd2, r2, I2, q2⟩
  refine thn (ho.run sa2 (rd.stp st2) rd2 r1 r2 q2 I2) ?_
  rintro w s3 ⟨z, d3, m3, Y, st3, sa3, rd3, r3, I3, q3⟩
  cases rd3 with
  | bl k =>
    cases r3
    refine wpAny_truthy_bool ?_
    cases k with
    | false =>
      obtain ⟨k', e', q'⟩ := Post.ok q3 (Stp.refl Y) sa3 (.bl false)
      cases e'
      exact ite_ff ⟨_, I3, q'⟩
    | true =>
      refine ite_tt (test_last (thn (hc.run sa3 (((re.stp st).stp st2).stp st3) q3 I3) ?_))
      rintro w' s4 ⟨z', d4, m4, Z, st4, sa4, rd4, r4, I4, q4⟩
      refine thn (ho' pins s4 σ Z m4 d' d4 y z' u w' _ sa4 ((rd2.stp st3).stp st4) rd4 I4 r2 r4 q4) ?_
      rintro c5 s5 ⟨z5, H5, I5, r5, k5, e5, q5⟩
      subst e5
      cases r5
      exact wpAny_truthy_bool ⟨H5, I5, q5⟩
  | _ => exact (show False from q3).elim
end
end DL

namespace DL
open PySem PySem.Spec PyProof.Rows L2
variable [LamTab]
section
@[simp ↓] theorem dVar_ap (i : Nat) (e : En) (m : Mu) : dVar  i e m = match e[i]? with
  | some (some d) => .ok d m
  | _ => .stuck := rfl
@[simp ↓] theorem dC_ap (d : D) (x_0 : En) (m : Mu) : dC  d x_0 m = .ok d m := rfl
@[simp ↓] theorem dBin_ap (f : D2) (a b : DE) (e : En) (m : Mu) : dBin  f a b e m = (a e m).bind fun x m1 => (b e m1).bind fun y m2 => f x y m2 := rfl
@[simp] theorem orD_ap (f g : D2) (x : D) (y : D) (m : Mu) : orD  f g x y m = match f x y m with
  | .stuck => g x y m
  | r => r := rfl
@[simp ↓] theorem dTst_ap (t : DE) (e : En) (m : Mu) : dTst  t e m = (t e m).bind fun d m => match d with
  | .bl b => .ok b m
  | _ => .stuck := rfl
@[simp ↓] theorem dTr_ap (t : DE) (e : En) (m : Mu) : dTr  t e m = (t e m).bind fun d m => match dTru m d with
  | some b => .ok b m
  | none => .stuck := rfl
@[simp ↓] theorem dNotT_ap (t : DT) (e : En) (m : Mu) : dNotT  t e m = (t e m).bind fun b m => .ok (!b) m := rfl
@[simp ↓] theorem dAndT_ap (t u : DT) (e : En) (m : Mu) : dAndT  t u e m = (t e m).bind fun b m => if b then u e m else .ok false m := rfl
@[simp ↓] theorem dOrT_ap (t u : DT) (e : En) (m : Mu) : dOrT  t u e m = (t e m).bind fun b m => if b then .ok true m else u e m := rfl
@[simp ↓] theorem dAnd_ap (t u : DE) (e : En) (m : Mu) : dAnd  t u e m = (t e m).bind fun d m => match d with
  | .bl true => u e m
  | .bl false => .ok (.bl false) m
  | _ => .stuck := rfl
@[simp ↓] theorem dOr_ap (t u : DE) (e : En) (m : Mu) : dOr  t u e m = (t e m).bind fun d m => match d with
  | .bl false => u e m
  | .bl true => .ok (.bl true) m
  | _ => .stuck := rfl
@[simp ↓] theorem dNot_ap (t : DE) (e : En) (m : Mu) : dNot  t e m = (t e m).bind fun d m => match d with
  | .bl b => .ok (.bl !b) m
  | _ => .stuck := rfl
@[simp ↓] theorem dIf_ap (t : DT) (u w : DE) (e : En) (m : Mu) : dIf  t u w e m = (t e m).bind fun b m => if b then u e m else w e m := rfl
@[simp ↓] theorem dChain_ap (g h : D2) (ta tb tc : DE) (e : En) (m : Mu) : dChain  g h ta tb tc e m = (ta e m).bind fun x m1 => (tb e m1).bind fun y m2 => (g x y m2).bind fun z m3 => match z with
  | .bl true => (tc e m3).bind fun w m4 => h y w m4
  | .bl false => .ok (.bl false) m3
  | _ => .stuck := rfl
@[simp ↓] theorem dNil_ap (x_0 : En) (m : Mu) : dNil  x_0 m = .ok [] m := rfl
@[simp ↓] theorem dCons_ap (t : DE) (u : DA) (e : En) (m : Mu) : dCons  t u e m = (t e m).bind fun d m1 => (u e m1).bind fun ds m2 => .ok (d :: ds) m2 := rfl
@[simp ↓] theorem dTup_ap (t : DA) (e : En) (m : Mu) : dTup  t e m = (t e m).bind fun ds m1 => if ds.length ≤ sizeLine then .ok (.tup ds) m1 else .stuck := rfl
@[simp ↓] theorem dLst_ap (t : DA) (e : En) (m : Mu) : dLst  t e m = (t e m).bind fun ds m1 => if ds.length ≤ sizeLine then .ok (.lst ds) m1 else .stuck := rfl
@[simp ↓] theorem dLoc_ap (t : DA) (e : En) (m : Mu) : dLoc  t e m = (t e m).bind fun ds m1 => if ds.length ≤ sizeLine then .ok (.loc m1.length) (m1 ++ [.lst ds]) else .stuck := rfl
@[simp ↓] theorem dFn_ap (N : Nat) (body : DS) (ds : List D) (m : Mu) : dFn  N body ds m = match body (env0 N ds) m with
  | .nx _ m1 => .ok .non m1
  | .rt d m1 => .ok d m1
  | .exc C fs _ m1 => .exc C fs m1
  | _ => .stuck := rfl
@[simp ↓] theorem dFld_ap (rows : List (Kl × Nat)) (t : DE) (e : En) (m : Mu) : dFld  rows t e m = (t e m).bind fun d m1 => match insOf m1 d with
  | some (C, ns, ds) => match fldAt rows C ns ds with
    | some x => .ok x m1
    | none => .stuck
  | none => .stuck := rfl
@[simp] theorem padF_ap (n : Nat) (dds : List D) (G : DFn) (ds : List D) (m : Mu) : padF  n dds G ds m = if (ds ++ dds).length = n then G (ds ++ dds) m else .stuck := rfl
@[simp ↓] theorem dFun_ap (G : DFn) (t : DA) (e : En) (m : Mu) : dFun  G t e m = (t e m).bind G := rfl
@[simp ↓] theorem dMeth_ap (rows : List (Kl × DFn)) (to : DE) (t : DA) (e : En) (m : Mu) : dMeth  rows to t e m = (to e m).bind fun o m1 => match insOf m1 o with
  | some (C, ns, _) => match methAt rows C ns with
    | some G => (t e m1).bind fun ds m2 => G (o :: ds) m2
    | none => .stuck
  | none => .stuck := rfl
@[simp ↓] theorem dProp_ap (rows : List (Kl × DFn)) (to : DE) (e : En) (m : Mu) : dProp  rows to e m = (to e m).bind fun o m1 => match insOf m1 o with
  | some (C, ns, _) => match methAt rows C ns with
    | some G => noExc (G [o] m1)
    | none => .stuck
  | none => .stuck := rfl
@[simp ↓] theorem dOwn2_ap (C : Addr) (G : DFn) (x : D) (y : D) (m : Mu) : dOwn2  C G x y m = match insOf m x, insOf m y with
  | some (C1, _, _), some (C2, _, _) => if C1 = C ∧ C2 = C then G [x, y] m else .stuck
  | _, _ => .stuck := rfl
@[simp ↓] theorem dNeg_ap (C : Addr) (G : DFn) (t : DE) (e : En) (m : Mu) : dNeg  C G t e m = (t e m).bind fun x m1 => match x with
  | .int i => .ok (.int (-i)) m1
  | _ => match insOf m1 x with
    | some (C1, _, _) => if C1 = C then G [x] m1 else .stuck
    | none => .stuck := rfl
@[simp ↓] theorem dNegI_ap (t : DE) (e : En) (m : Mu) : dNegI  t e m = (t e m).bind fun x m1 => match x with
  | .int i => .ok (.int (-i)) m1
  | _ => .stuck := rfl
@[simp] theorem gI2_ap (C : Int → Int → Bool) (k : Int → Int → D) (x : D) (y : D) (m : Mu) : gI2  C k x y m = match x with
  | .int i => match y with
    | .int j => if C i j then .ok (k i j) m else .stuck
    | _ => .stuck
  | _ => .stuck := rfl
@[simp] theorem gI0_ap (k : Int → Int → D) (x : D) (y : D) (m : Mu) : gI0  k x y m = match x with
  | .int i => match y with
    | .int j => .ok (k i j) m
    | _ => .stuck
  | _ => .stuck := rfl
@[simp] theorem gAddS_ap (x : D) (y : D) (m : Mu) : gAddS  x y m = match x with
  | .str a => match y with
    | .str b => if a.length + b.length ≤ sizeLine then .ok (.str (a ++ b)) m else .stuck
    | _ => .stuck
  | _ => .stuck := rfl
@[simp] theorem gIsN_ap (x : D) (y : D) (m : Mu) : gIsN  x y m = match y with
  | .non => match x with
    | .non => .ok (.bl true) m
    | .val _ => .stuck
    | _ => .ok (.bl false) m
  | _ => .stuck := rfl
@[simp] theorem gNotN_ap (x : D) (y : D) (m : Mu) : gNotN  x y m = match y with
  | .non => match x with
    | .non => .ok (.bl false) m
    | .val _ => .stuck
    | _ => .ok (.bl true) m
  | _ => .stuck := rfl
@[simp] theorem gEqD_ap (neg : Bool) (x : D) (y : D) (m : Mu) : gEqD  neg x y m = match pyOf m x, pyOf m y with
  | some d, some e => if SeqAt.shaped d && SeqAt.shaped e then .ok (.bl (neg ^^ PyData.eqv d e)) m else .stuck
  | _, _ => .stuck := rfl
@[simp] theorem gEqS_ap (neg : Bool) (x : D) (y : D) (m : Mu) : gEqS  neg x y m = match scEq x y with
  | some b => .ok (.bl (neg ^^ b)) m
  | none => .stuck := rfl
@[simp] theorem gInQ_ap (neg : Bool) (x : D) (y : D) (m : Mu) : gInQ  neg x y m = match toV x, (seqA m y).bind toVs with
  | some v, some vs => .ok (.bl (neg ^^ inV v vs)) m
  | _, _ => .stuck := rfl
@[simp] theorem gInS_ap (neg : Bool) (x : D) (y : D) (m : Mu) : gInS  neg x y m = match x with
  | .str a => match y with
    | .str b => .ok (.bl (neg ^^ occurs a b)) m
    | _ => .stuck
  | _ => .stuck := rfl
@[simp] theorem gAbs_ap (ds : List D) (m : Mu) : gAbs  ds m = match ds with
  | [.int i] => .ok (.int (if i < 0 then -i else i)) m
  | _ => .stuck := rfl
@[simp] theorem gInt_ap (ds : List D) (m : Mu) : gInt  ds m = match ds with
  | [.int i] => .ok (.int i) m
  | [.bl b] => .ok (.int (if b then 1 else 0)) m
  | _ => .stuck := rfl
@[simp] theorem gBool_ap (ds : List D) (m : Mu) : gBool  ds m = match ds with
  | [.int i] => .ok (.bl (i != 0)) m
  | [.bl b] => .ok (.bl b) m
  | _ => .stuck := rfl
@[simp] theorem gMin2_ap (ds : List D) (m : Mu) : gMin2  ds m = match ds with
  | [.int i, .int j] => .ok (.int (if j < i then j else i)) m
  | _ => .stuck := rfl
@[simp] theorem gMax2_ap (ds : List D) (m : Mu) : gMax2  ds m = match ds with
  | [.int i, .int j] => .ok (.int (if j > i then j else i)) m
  | _ => .stuck := rfl
@[simp] theorem gStrI_ap (ds : List D) (m : Mu) : gStrI  ds m = match ds with
  | [.int i] => if i.natAbs.log2 < 1920 then .ok (.str (toString i)) m else .stuck
  | _ => .stuck := rfl
@[simp] theorem gLen_ap (ds : List D) (m : Mu) : gLen  ds m = match ds with
  | [.str x] => if x.length ≤ sizeLine then .ok (.int x.length) m else .stuck
  | [d] => match seqA m d with
    | some ds => .ok (.int ds.length) m
    | none => .stuck
  | _ => .stuck := rfl
@[simp] theorem gList_ap (ds : List D) (m : Mu) : gList  ds m = match ds with
  | [d] => match seqA m d with
    | some es => .ok (.lst es) m
    | none => .stuck
  | _ => .stuck := rfl
@[simp] theorem gListM_ap (ds : List D) (m : Mu) : gListM  ds m = match ds with
  | [d] => match seqA m d with
    | some es => .ok (.loc m.length) (m ++ [.lst es])
    | none => .stuck
  | _ => .stuck := rfl
@[simp] theorem gAll_ap (ds : List D) (m : Mu) : gAll  ds m = match ds with
  | [d] => match (seqL m d).bind toBs with
    | some bs => .ok (.bl (bs.all _root_.id)) m
    | none => .stuck
  | _ => .stuck := rfl
@[simp] theorem gAny_ap (ds : List D) (m : Mu) : gAny  ds m = match ds with
  | [d] => match (seqL m d).bind toBs with
    | some bs => .ok (.bl (bs.any _root_.id)) m
    | none => .stuck
  | _ => .stuck := rfl
@[simp ↓] theorem dNoPart_ap (x_0 : En) (m : Mu) : dNoPart  x_0 m = .ok none m := rfl
@[simp ↓] theorem dPart_ap (t : DE) (e : En) (m : Mu) : dPart  t e m = (t e m).bind fun d m1 => match d with
  | .int i => .ok (some i) m1
  | _ => .stuck := rfl
@[simp ↓] theorem dSl_ap (t : DE) (lo hi : DO) (e : En) (m : Mu) : dSl  t lo hi e m = (t e m).bind fun d m1 => (lo e m1).bind fun l m2 => (hi e m2).bind fun h m3 => match seqL m3 d with
  | some ds => .ok (.lst (cutD ds l h)) m3
  | none => .stuck := rfl
@[simp ↓] theorem dSeq_ap (t u : DS) (e : En) (m : Mu) : dSeq  t u e m = match t e m with
  | .nx e1 m1 => u e1 m1
  | r => r := rfl
@[simp ↓] theorem dSkip_ap (e : En) (m : Mu) : dSkip  e m = .nx e m := rfl
@[simp ↓] theorem dRet_ap (t : DE) (e : En) (m : Mu) : dRet  t e m = rsOf e (t e m) fun d m1 => .rt d m1 := rfl
@[simp ↓] theorem dStuck_ap (x_0 : En) (x_1 : Mu) : dStuck  x_0 x_1 = .stuck := rfl
@[simp ↓] theorem dDrop_ap (t : DE) (e : En) (m : Mu) : dDrop  t e m = rsOf e (t e m) fun _ m1 => .nx e m1 := rfl
@[simp ↓] theorem dSet_ap (i : Nat) (t : DE) (e : En) (m : Mu) : dSet  i t e m = rsOf e (t e m) fun d m1 => .nx (e.set i (some d)) m1 := rfl
@[simp ↓] theorem dIfS_ap (t : DT) (u w : DS) (e : En) (m : Mu) : dIfS  t u w e m = rsOfB e (t e m) fun b m1 => if b then u e m1 else w e m1 := rfl
@[simp ↓] theorem dName_ap (i : Nat) (d : D) (e : En) : dName  i d e = some (e.set i (some d)) := rfl
@[simp ↓] theorem dGnil_ap (ds : List D) (e : En) : dGnil  ds e = match ds with
  | [] => some e
  | _ => none := rfl
@[simp ↓] theorem dGcons_ap (g : DG) (h : List D → En → Option En) (ds : List D) (e : En) : dGcons  g h ds e = match ds with
  | d :: r => (g d e).bind fun e1 => h r e1
  | [] => none := rfl
@[simp ↓] theorem dTupG_ap (n : Nat) (g : List D → En → Option En) (d : D) (e : En) : dTupG  n g d e = match d with
  | .tup ds => if ds.length = n then g ds e else none
  | _ => none := rfl
@[simp ↓] theorem dAsg_ap (t : DE) (g : DG) (e : En) (m : Mu) : dAsg  t g e m = rsOf e (t e m) fun d m1 => match g d e with
  | some e1 => .nx e1 m1
  | none => .stuck := rfl
@[simp ↓] theorem dPar_ap (i j : Nat) (t : DA) (e : En) (m : Mu) : dPar  i j t e m = match t e m with
  | .ok [x, y] m1 => .nx ((e.set i (some x)).set j (some y)) m1
  | .exc C fs m1 => .exc C fs e m1
  | _ => .stuck := rfl
@[simp ↓] theorem dItL_ap (t : DE) (e : En) (m : Mu) : dItL  t e m = (t e m).bind fun d m1 => match d with
  | .lst ds => .ok ds m1
  | _ => .stuck := rfl
@[simp ↓] theorem dItT_ap (t : DE) (e : En) (m : Mu) : dItT  t e m = (t e m).bind fun d m1 => match d with
  | .tup ds => .ok ds m1
  | _ => .stuck := rfl
@[simp ↓] theorem dItR1_ap (t : DA) (e : En) (m : Mu) : dItR1  t e m = (t e m).bind fun ds m1 => match ds with
  | [.int j] => if -(2 ^ 62) ≤ j ∧ j < 2 ^ 62 then .ok (rngD 0 j.toNat) m1 else .stuck
  | _ => .stuck := rfl
@[simp ↓] theorem dItR2_ap (t : DA) (e : En) (m : Mu) : dItR2  t e m = (t e m).bind fun ds m1 => match ds with
  | [.int i, .int j] => if -(2 ^ 62) ≤ i ∧ i < 2 ^ 62 ∧ -(2 ^ 62) ≤ j ∧ j < 2 ^ 62 then .ok (rngD i (j - i).toNat) m1 else .stuck
  | _ => .stuck := rfl
@[simp ↓] theorem dItE_ap (t : DA) (e : En) (m : Mu) : dItE  t e m = (t e m).bind fun ds m1 => match ds with
  | [.lst es] => .ok ((List.range es.length).zipWith (fun k d => .tup [.int (k : Nat), d]) es) m1
  | _ => .stuck := rfl
@[simp ↓] theorem dItZ_ap (t : DA) (e : En) (m : Mu) : dItZ  t e m = (t e m).bind fun ds m1 => match ds with
  | [.lst xs, .lst ys] => .ok (xs.zipWith (fun x y => .tup [x, y]) ys) m1
  | [.tup xs, .tup ys] => .ok (xs.zipWith (fun x y => .tup [x, y]) ys) m1
  | _ => .stuck := rfl
@[simp ↓] theorem dFor_ap (t : DA) (g : DG) (b : DS) (e : En) (m : Mu) : dFor  t g b e m = match t e m with
  | .ok ds m1 => dLoop g b ds e m1
  | .exc C fs m1 => .exc C fs e m1
  | .stuck => .stuck := rfl
@[simp ↓] theorem dComp_ap (t : DA) (g : DG) (c : DT) (b : DE) (own : List Nat) (e : En) (m : Mu) : dComp  t g c b own e m = (t e m).bind fun ds m1 => (dCompL g c b (wipeE e own) ds m1 []).bind fun xs m2 => .ok (.lst xs) m2 := rfl
@[simp ↓] theorem dYes_ap (x_0 : En) (m : Mu) : dYes  x_0 m = .ok true m := rfl
@[simp ↓] theorem dPutI_ap (tv to ti : DE) (e : En) (m : Mu) : dPutI  tv to ti e m = rsOf e (tv e m) fun v m1 => rsOf e (to e m1) fun o m2 => rsOf e (ti e m2) fun i m3 => match o, i with
  | .loc n, .int k => match m3[n]? with
    | some (.lst ds) => match ixN ds.length k with
      | some j => .nx e (m3.set n (.lst (ds.set j v)))
      | none => .stuck
    | _ => .stuck
  | _, _ => .stuck := rfl
@[simp ↓] theorem dPutF_ap (Cs : List Addr) (f : Str) (tv to : DE) (e : En) (m : Mu) : dPutF  Cs f tv to e m = rsOf e (tv e m) fun v m1 => rsOf e (to e m1) fun o m2 => match o with
  | .loc n => match m2[n]? with
    | some (.ins C fs) => if C ∈ Cs ∧ fs.length < 1000 then .nx e (m2.set n (.ins C (putD f v fs))) else .stuck
    | _ => .stuck
  | _ => .stuck := rfl
@[simp ↓] theorem dIsi_ap (A : Ans) (ta : DE) (e : En) (m : Mu) : dIsi  A ta e m = (ta e m).bind fun d m1 => match (tagOf m1 d).bind A.get with
  | some b => .ok (.bl b) m1
  | none => .stuck := rfl
@[simp ↓] theorem dFunK_ap (G : DFn) (n nk : Nat) (t u : DA) (e : En) (m : Mu) : dFunK  G n nk t u e m = (t e m).bind fun ds m1 => (u e m1).bind fun zs m2 => if ds.length = n ∧ zs.length = nk then G (ds ++ zs) m2 else .stuck := rfl
@[simp ↓] theorem dPar3_ap (i j l : Nat) (t : DA) (e : En) (m : Mu) : dPar3  i j l t e m = match t e m with
  | .ok [x, y, z] m1 => .nx (((e.set i (some x)).set j (some y)).set l (some z)) m1
  | .exc C fs m1 => .exc C fs e m1
  | _ => .stuck := rfl
@[simp ↓] theorem bind_pre {α β : Type} (r : Res α) (f : α → Mu → Res β) : r.bind f = match r with
  | .stuck => .stuck
  | .ok a m => f a m
  | .exc C fs m => .exc C fs m := rfl
@[simp ↓] theorem rsOf_pre (e : En) (r : Res D) (k : D → Mu → RS) : rsOf e r k = match r with
  | .stuck => .stuck
  | .ok d m => k d m
  | .exc C fs m => .exc C fs e m := rfl
@[simp ↓] theorem rsOfB_pre (e : En) (r : Res Bool) (k : Bool → Mu → RS) : rsOfB e r k = match r with
  | .stuck => .stuck
  | .ok d m => k d m
  | .exc C fs m => .exc C fs e m := rfl
@[simp] theorem gIx_lst (m : Mu) (ds : List D) (i : Int) : gIx (.lst ds) (.int i) m = match atI ds i with
  | some d => .ok d m
  | none => .stuck := rfl
@[simp] theorem gIx_tup (m : Mu) (ds : List D) (i : Int) : gIx (.tup ds) (.int i) m = match atI ds i with
  | some d => .ok d m
  | none => .stuck := rfl
@[simp] theorem gEq_int (m : Mu) (i j : Int) : gEq (.int i) (.int j) m = .ok (.bl (decide (i = j))) m := by simp [gEq, scEq]
@[simp] theorem gNe_int (m : Mu) (i j : Int) : gNe (.int i) (.int j) m = .ok (.bl (!decide (i = j))) m := by simp [gNe, scEq]
@[simp] theorem gEq_bl (m : Mu) (i j : Bool) : gEq (.bl i) (.bl j) m = .ok (.bl (i == j)) m := by simp [gEq, scEq]
@[simp] theorem gNe_bl (m : Mu) (i j : Bool) : gNe (.bl i) (.bl j) m = .ok (.bl (!(i == j))) m := by simp [gNe, scEq]
@[simp] theorem gEq_str (m : Mu) (i j : Str) : gEq (.str i) (.str j) m = .ok (.bl (decide (i = j))) m := by simp [gEq, scEq]
@[simp] theorem gNe_str (m : Mu) (i j : Str) : gNe (.str i) (.str j) m = .ok (.bl (!decide (i = j))) m := by simp [gNe, scEq]
@[simp] theorem powOk_def (i j : Int) : powOk i j = decide (0 ≤ j ∧ j ≤ 1000000 ∧ i.natAbs < 2 ^ 64) := rfl
@[simp] theorem ixN_lit (n : Nat) (i : Nat) : ixN n (no_index (@OfNat.ofNat Int i _)) = if i < n then some i else none := by
  have e : (@OfNat.ofNat Int i _) = (i : Int) := rfl
  unfold ixN
  rw [e, if_pos (by omega)]
  by_cases h : i < n
  · rw [if_pos (by omega), if_pos h, Int.toNat_natCast]
  · rw [if_neg (by omega), if_neg h]
@[simp] theorem rsOf_ok (e : En) (d : D) (m : Mu) (k : D → Mu → RS) : rsOf e (.ok d m) k = k d m := rfl
@[simp] theorem rsOf_exc (e : En) (C : Addr) (fs : List (Str × D)) (m : Mu) (k : D → Mu → RS) : rsOf e (.exc C fs m) k = .exc C fs e m := rfl
@[simp] theorem rsOfB_ok (e : En) (d : Bool) (m : Mu) (k : Bool → Mu → RS) : rsOfB e (.ok d m) k = k d m := rfl
@[simp] theorem rsOfB_exc (e : En) (C : Addr) (fs : List (Str × D)) (m : Mu) (k : Bool → Mu → RS) : rsOfB e (.exc C fs m) k = .exc C fs e m := rfl
@[simp] theorem seqL_lst (m : Mu) (ds : List D) : seqL m (.lst ds) = some ds := rfl
@[simp] theorem seqA_lst (m : Mu) (ds : List D) : seqA m (.lst ds) = some ds := rfl
@[simp] theorem seqA_tup (m : Mu) (ds : List D) : seqA m (.tup ds) = some ds := rfl
@[simp] theorem seqA_loc (m : Mu) (n : Nat) : seqA m (.loc n) = match m[n]? with
  | some (.lst ds) => some ds
  | _ => none := by
  simp only [seqA, seqL]
  cases m[n]? with
  | none => rfl
  | some o => cases o <;> rfl
@[simp] theorem gIx_loc (m : Mu) (n : Nat) (i : Int) : gIx (.loc n) (.int i) m = match m[n]? with
  | some (.lst ds) => (match atI ds i with
    | some d => .ok d m
    | none => .stuck)
  | _ => .stuck := by
  have h : gIx (.loc n) (.int i) m = match seqA m (.loc n) with
    | some ds => (match atI ds i with
      | some d => .ok d m
      | none => .stuck)
    | none => .stuck := rfl
  rw [h, seqA_loc]
  cases m[n]? with
  | none => rfl
  | some o => cases o <;> rfl
@[simp] theorem insOf_obj (m : Mu) (c : Kl) (ds : List D) : insOf m (.obj c ds) = some (c.a, c.ns, ds) := rfl
@[simp] theorem insOf_loc (m : Mu) (n : Nat) : insOf m (.loc n) = match m[n]? with
  | some (.ins C fs) => some (C, fs.map (·.1), fs.map (·.2))
  | _ => none := rfl
@[simp] theorem fldAt_nil (C : Addr) (ns : List Str) (ds : List D) : fldAt [] C ns ds = none := rfl
@[simp] theorem fldAt_cons (c : Kl) (i : Nat) (rest : List (Kl × Nat)) (C : Addr) (ns : List Str) (ds : List D) : fldAt ((c, i) :: rest) C ns ds = if C = c.a ∧ ns = c.ns then ds[i]? else fldAt rest C ns ds := rfl
@[simp] theorem methAt_nil (C : Addr) (ns : List Str) : methAt [] C ns = none := rfl
@[simp] theorem methAt_cons (c : Kl) (G : DFn) (rest : List (Kl × DFn)) (C : Addr) (ns : List Str) : methAt ((c, G) :: rest) C ns = if C = c.a ∧ ns = c.ns then some G else methAt rest C ns := rfl
@[simp] theorem noExc_ok (d : D) (m : Mu) : noExc (.ok d m) = .ok d m := rfl
@[simp] theorem dLoop_nil (g : DG) (b : DS) (e : En) (m : Mu) : dLoop g b [] e m = .nx e m := rfl
@[simp] theorem dCompL_nil (g : DG) (c : DT) (b : DE) (e : En) (m : Mu) (acc : List D) : dCompL g c b e [] m acc = .ok acc m := rfl
@[simp] theorem wipeE_nil (e : En) : wipeE e [] = e := rfl
@[simp] theorem wipeE_cons (e : En) (v : Nat) (vs : List Nat) : wipeE e (v :: vs) = (wipeE e vs).set v none := rfl
@[simp] theorem atI_nat {α : Type} (xs : List α) (i : Nat) : atI xs (i : Int) = xs[i]? := by
  unfold atI ixN
  rw [if_pos (by omega)]
  by_cases h : i < xs.length
  · rw [if_pos (by omega)]; simp
  · rw [if_neg (by omega)]; simp; omega
@[simp] theorem atI_lit {α : Type} (xs : List α) (i : Nat) : atI xs (no_index (@OfNat.ofNat Int i _)) = xs[i]? := atI_nat xs i
end
end DL

namespace DL
open PySem PySem.Spec PyProof.Rows L2
variable [LamTab]
theorem dCompL_map {g : DG} {c : DT} {b : DE} {e : En} {m : Mu} (f : D → D) : ∀ (ds acc : List D), (∀ d ∈ ds, ∃ e1, g d e = some e1 ∧ c e1 m = .ok true m ∧ b e1 m = .ok (f d) m) → acc.length + ds.length ≤ sizeLine → dCompL g c b e ds m acc = .ok (acc ++ ds.map f) m
  | [], acc, _, _ => by simp
  | d :: ds, acc, h, hl => by
    obtain ⟨e1, h1, h2, h3⟩ := h d (by simp)
    have ih := dCompL_map f ds (acc ++ [f d]) (fun x hx => h x (by simp [hx])) (by simp at hl ⊢; omega)
    unfold dCompL
    rw [h1]
    simp only [h2, h3]
    rw [if_pos (by simp at hl; omega), ih]
    simp
theorem dLoop_inv {g : DG} {b : DS} (I : En → Mu → Prop) : ∀ (ds : List D) (e : En) (m : Mu), (∀ d ∈ ds, ∀ e m, I e m → ∃ e1 e2 m2, g d e = some e1 ∧ b e1 m = .nx e2 m2 ∧ I e2 m2) → I e m → ∃ e2 m2, dLoop g b ds e m = .nx e2 m2 ∧ I e2 m2
  | [], e, m, _, h => ⟨e, m, rfl, h⟩
  | d :: ds, e, m, hs, h => by
    obtain ⟨e1, e2, m2, h1, h2, h3⟩ := hs d (by simp) e m h
    obtain ⟨e3, m3, h4, h5⟩ := dLoop_inv I ds e2 m2 (fun x hx => hs x (by simp [hx])) h3
    refine ⟨e3, m3, ?_, h5⟩
    unfold dLoop
    rw [h1]
    simp only [h2]
    exact h4
def plainD : Nat → D → Prop
  | 0, _ => False
  | _ + 1, .non => True
  | _ + 1, .bl _ => True
  | _ + 1, .int _ => True
  | _ + 1, .str _ => True
  | n + 1, .tup ds => ds.length ≤ sizeLine ∧ ∀ d ∈ ds, plainD n d
  | n + 1, .lst ds => ds.length ≤ sizeLine ∧ ∀ d ∈ ds, plainD n d
  | _ + 1, _ => False
theorem toBs_trues : ∀ n : Nat, toBs (List.replicate n (.bl true)) = some (List.replicate n true)
  | 0 => rfl
  | n + 1 => by simp [List.replicate_succ, toBs, toBs_trues n]
end DL

namespace DL
open PySem PySem.Spec PyProof.Rows L2
variable [LamTab]
section
variable {X : Cx} {a b c e o : Expr} {es : List Expr} {ta tb tc : DE} {t : DA} {pos : Pos} {k : Nat}
theorem op_catS : OpR X (binaryOp .Add) (fun x y H Q => ∃ l b xs zs, x = .ref l ∧ y = .ref b ∧ SqL X.K H l xs ∧ SqL X.K H b zs ∧ xs.length + zs.length ≤ sizeLine ∧ ∀ p, H p = none → Q (.ref p) (upd H p (.lst (xs ++ zs)))) := by
  intro pins s σ H x y v u Q I rx ry h
  obtain ⟨l, b, xs, zs, rfl, rfl, hH, hB, hz, q⟩ := h
  cases rx
  cases ry
  obtain ⟨its, r1, ⟨⟨cls, dd, data, sl⟩, n, e1, hc1, hd1, hs1⟩, _⟩ := I.list hH
  obtain ⟨its2, r2, ⟨⟨cls2, dd2, data2, sl2⟩, n2, e2, hc2, hd2, hs2⟩, _⟩ := I.list hB
  simp only at hc1 hs1 hc2 hs2
  subst hc1 hs1 hc2 hs2
  have l1 := r1.length
  have l2 := r2.length
  have ea : its.toArray ++ its2.toArray = (its ++ its2).toArray := by simp
  refine concat_meets ⟨_, e1, rfl⟩ ⟨_, e2, rfl⟩ noFill_list_add seq_list_add PySem.F.slot_list_add PySem.F.entry_list_add (PySem.F.args_list_add_2 _ _) (list_addW l b its.toArray its2.toArray n n2 dd dd2 sl sl2 (by simp; omega)) ⟨e1, e2, ?_⟩
  rw [ea]
  exact ⟨.ref _, _, I.lnew (t' := s.toks) (r1.append r2) (by rw [List.length_append]; omega), rfl, q _ I.fresh⟩
def gCat : D2 := fun x y m => match seqL m x, seqL m y with
  | some xs, some ys => if xs.length + ys.length ≤ sizeLine then .ok (.lst (xs ++ ys)) m else .stuck
  | _, _ => .stuck
theorem od_cat : OD X (binaryOp .Add) gCat := by
  refine od_of op_catS fun S m x y vx vy Q W sa rx ry p => ?_
  unfold gCat at p
  split at p
  · rename_i xs ys e1 e2
    split at p
    · rename_i hl
      obtain ⟨l, us, rfl, h1, r1⟩ := seqL_ok sa rx e1
      obtain ⟨l2, ws, rfl, h2, r2⟩ := seqL_ok sa ry e2
      refine ⟨l, l2, us, ws, rfl, rfl, h1, h2, by rw [← r1.len, ← r2.len]; exact hl, fun p' hp => ?_⟩
      have st1 := Stp.new sa (o := .lst (us ++ ws)) hp
      exact p (.ref p') (S.new p' (.lst (us ++ ws))) st1 (sa.new hp) (.lst (.inl (.inl upd_same)) ((r1.append r2).stp st1))
    · exact p.elim
  · exact p.elim
def gCatM : D2 := fun x y m => match seqL m x, seqL m y with
  | some xs, some ys => if xs.length + ys.length ≤ sizeLine then .ok (.loc m.length) (m ++ [.lst (xs ++ ys)]) else .stuck
  | _, _ => .stuck
abbrev MRow (P : Program) (w : World) (K : PySem.W.Frag) (mg : Str → Option Value) (base : Heap) (k : Nat) (mn : Str) : Kl → DFn → Prop := fun c G => MT P w K mg base k mn c.a G
def dTrO (rows : List (Kl × DFn)) (t : DE) : DT := fun e m => (t e m).bind fun d m => match dTru m d with
  | some b => .ok b m
  | none => match insOf m d with
    | some (C, ns, _) => match methAt rows C ns with
      | some G => (G [d] m).bind fun r m => match r with
        | .bl b => .ok b m
        | _ => .stuck
      | none => .stuck
    | none => .stuck
theorem boolBack {pins : List (Addr × Obj)} {σ : L2.St} {Q : Bool → Shared → Prop} {v : Value} {s : Shared} (h : EP X pins σ (fun v H => ∃ b, v = .bl b ∧ ∀ s, Inv X pins σ H s → Q b s) v s) : PySem.W.BoolBack Q v s := by
  obtain ⟨y, H, I, r, b, rfl, q⟩ := h
  cases r
  exact q s I
theorem pdt_truthO {rows : List (Kl × DFn)} (ha : PDE X a ta) (hrows : ∀ r ∈ rows, MRow X.prog X.w X.K X.mg X.base k "__bool__" r.1 r.2) (hr : Room k X.A) (he : ∀ whole, isTrue a X.env whole = (do let v ← whole; standAt a.pos; holding [v] (truthy v)) := by intro _; rfl) : PDT X a (dTrO rows ta) := by
  intro S r m σ Q sa re p pins s I
  refine isTrue_plain (thn (ha.run sa re p I) ?_) (he _)
  rintro u s1 ⟨x, d, m1, T, st, sa1, rd, rx, I1, q⟩
  split at q
  · rename_i b e
    exact tru_ok pins s1 σ T.H x u Q I1 rx ⟨b, dTru_ok sa1 rd e, Post.ok q (Stp.refl T) sa1 rfl⟩
  · split at q
    · rename_i C ns ds ei
      split at q
      · rename_i G eG
        obtain ⟨c, ok, rfl, rfl⟩ := methAt_ok (P := MRow X.prog X.w X.K X.mg X.base k "__bool__") hrows eG
        obtain ⟨a, dx, vs, rfl, h1, h2, h3⟩ := insOf_ok sa1 rd ei
        obtain ⟨f, fd, ps, dds, G0, hf1, hf2, hk, hf, hb, rfl⟩ := ok.ex
        obtain rfl : u = Value.ref a := rx
        obtain ⟨od1, J1⟩ := Inv.inst I1 h1
        obtain ⟨mm, F⟩ := I1.fr
        refine PySem.W.truthy_K F I1.ok.mod.kin J1 hf1 hf2 (thn (run_fnA (us := [.ref a]) hf hr hb rfl I1 sa1 (.cons rd .nil) (.cons rfl .nil) (Post.bindI q fun r m2 v U st2 sa2 rv q2 => ?_)) fun v s2 h => boolBack (pins := pins) (σ := σ) h)
        cases rv with
        | bl b => exact ⟨b, rfl, fun s I => ⟨U.H, I, Post.ok q2 (Stp.refl U) sa2 rfl⟩⟩
        | _ => exact (show False from q2).elim
      · exact (show False from q).elim
    · exact (show False from q).elim
end
end DL

namespace DL
open PySem PySem.Spec PySem.Calls PyProof.Rows L2
variable [LamTab]
open PySem.W (InstAt findIn isFn mroIn)
section
variable {prog : Program} {w : World} {A : Around} {E : Value → Shared → Prop} {s : Shared} {K : PySem.W.Frag} {x C L f : Addr} {h₀ : Heap} {m : Str → Option Value} {ox : Obj} {od : Option Obj} {b tb : Value}
end
section
variable {X : Cx} {a b c e o : Expr} {es : List Expr} {ta tb tc : DE} {t : DA} {pos : Pos} {k : Nat}
theorem tag_looks {pins : List (Addr × Obj)} {σ : L2.St} {s : Shared} {S : Wd} {m : Mu} {d : D} {v : V} {u : Value} {t : Tg} (I : Inv X pins σ S.H s) (sa : Sta X.K S m) (r : Rep X.K S.i S.F d v) (rv : RelV v u) (ht : tagOf m d = some t) :
    PySem.W.Looks (model X.prog X.w) s.heap (typeOf u) t.val := by
  have pr : ∀ {ty : Value}, TyX X.K S.H v ty → PySem.W.Looks (model X.prog X.w) s.heap (typeOf u) ty := fun ty => by
    obtain ⟨P, Z, p, _⟩ := kit_of I rv ty
    exact Z.ty _ _ I.kIn p
  have ow : ∀ {a C dx : Addr} {fs : List (Str × V)}, v = .ref a → S.H a = some (.ins C dx fs) → PySem.W.Looks (model X.prog X.w) s.heap (typeOf u) (.ref C) := fun {a C dx fs} e h => by
    subst e
    obtain rfl : u = Value.ref a := rv
    obtain ⟨od, J⟩ := Inv.inst I h
    exact J.type
  cases r with
  | non => cases ht; exact pr (.base .non)
  | bl x => cases ht; exact pr (.base (.bl x))
  | int x => cases ht; exact pr (.base (.int x))
  | str x => cases ht; exact pr (.base (.str x))
  | tup h1 h2 => cases ht; exact pr (SqT.tyx (SqT.ext' h1 sa.sub))
  | lst h1 h2 => cases ht; exact pr (SqL.tyx (SqL.ext' h1 sa.sub))
  | obj h1 h2 h3 => cases ht; exact ow rfl (sa.sub _ _ h1)
  | @loc n a h =>
    unfold tagOf at ht
    dsimp only at ht
    split at ht
    · rename_i ds e
      cases ht
      obtain ⟨xs, q1, q2⟩ := sa.ok n a _ h e
      exact pr (.base (.lst q1))
    · rename_i C fs e
      cases ht
      obtain ⟨dx, vs, q1, q2⟩ := sa.ok n a _ h e
      exact ow rfl q1
    · cases ht
  | val v => cases ht
  | xob h1 h2 h3 => cases ht
  | lam h => cases ht
  | clo h h2 h3 => cases ht
  | dct h h2 h3 => cases ht
def eqRow (rows : List (Kl × DFn × List Tg)) (C : Addr) (ns : List Str) : Option (DFn × List Tg) := match rows with
  | [] => none
  | (c, G) :: rest => if C = c.a ∧ ns = c.ns then some G else eqRow rest C ns
theorem eqRow_ok {P : Kl × DFn × List Tg → Prop} : ∀ {rows : List (Kl × DFn × List Tg)} {C : Addr} {ns : List Str} {G : DFn × List Tg}, (∀ r ∈ rows, P r) → eqRow rows C ns = some G → ∃ c, P (c, G) ∧ C = c.a ∧ ns = c.ns
  | [], _, _, _, _, h => by cases h
  | (c, i) :: rest, C, ns, d, hr, h => by
    unfold eqRow at h
    split at h
    · rename_i e
      cases h
      exact ⟨c, hr _ List.mem_cons_self, e.1, e.2⟩
    · exact eqRow_ok (fun r hm => hr r (List.mem_cons_of_mem _ hm)) h
structure EqOk (P : Program) (w : World) (K : PySem.W.Frag) (mg : Str → Option Value) (base : Heap) (k : Nat) (r : Kl × DFn × List Tg) : Prop where
  mt : MT P w K mg base k "__eq__" r.1.a r.2.1
  nf : ∀ t ∈ r.2.2, PySem.W.notFirst K r.1.a t.val = true
def dOwnEq (neg : Bool) (rows : List (Kl × DFn × List Tg)) : D2 := fun x y m => match insOf m x with
  | some (C, ns, _) => match eqRow rows C ns, tagOf m y with
    | some (G, ts), some t => if t ∈ ts then ((G [x, y] m).bind fun r m1 => match r with
        | .bl b => .ok (.bl (neg ^^ b)) m1
        | _ => .stuck) else .stuck
    | _, _ => .stuck
  | none => .stuck
theorem od_ownEq {rows : List (Kl × DFn × List Tg)} (hrows : ∀ r ∈ rows, EqOk X.prog X.w X.K X.mg X.base k r) (hr : Room k X.A) : OD X (compareOp .Eq) (dOwnEq false rows) := by
  intro pins s σ S m x y vx vy u w Q sa rx ry I hu hw p
  unfold dOwnEq at p
  split at p
  · rename_i C ns ds ei
    split at p
    · rename_i G ts t eG eT
      split at p
      · rename_i ht
        obtain ⟨c, ok, rfl, rfl⟩ := eqRow_ok (P := EqOk X.prog X.w X.K X.mg X.base k) hrows eG
        obtain ⟨a, dx, vs, rfl, h1, h2, h3⟩ := insOf_ok sa rx ei
        obtain ⟨f, fd, ps, dds, G0, hf1, hf2, hk, hf, hb, rfl⟩ := ok.mt.ex
        obtain rfl : u = Value.ref a := hu
        obtain ⟨od1, J1⟩ := Inv.inst I h1
        obtain ⟨mm, F⟩ := I.fr
        refine PySem.W.cmp_K (op := .Eq) hr.units0 F I.ok.mod.kin J1 (tag_looks I sa ry hw eT) (ok.nf t ht) hf1 hf2 (thn (run_fnA (us := [.ref a, w]) hf hr hb rfl I sa (.cons rx (.cons ry .nil)) (.cons rfl (.cons hw .nil)) (Post.bindI p fun r m2 v U st2 sa2 rv q2 => ?_)) fun v s1 h => cmpBack_of h fun h => h)
        cases rv with
        | bl b => (dsimp only at q2; rw [Bool.false_xor] at q2); exact Post.ok q2 (Stp.refl U) sa2 (.bl b)
        | _ => exact (show False from q2).elim
      · exact p.elim
    · exact p.elim
  · exact p.elim
def dOwnIn (neg : Bool) (rows : List (Kl × DFn)) : D2 := fun x y m => match insOf m y with
  | some (C, ns, _) => match methAt rows C ns with
    | some G => (G [y, x] m).bind fun r m1 => match r with
      | .bl b => .ok (.bl (neg ^^ b)) m1
      | _ => .stuck
    | _ => .stuck
  | none => .stuck
def dOwnStr (rows : List (Kl × DFn)) : DFn := fun ds m => match ds with
  | [x] => match insOf m x with
    | some (C, ns, _) => match methAt rows C ns with
      | some G => (G [x] m).bind fun r m1 => match r with
        | .str z => .ok (.str z) m1
        | _ => .stuck
      | none => .stuck
    | none => .stuck
  | _ => .stuck
end
end DL

namespace DL
open PySem PySem.Spec PySem.Calls PyProof.Rows L2
variable [LamTab]
section
variable {X : Cx} {a b c e o : Expr} {es : List Expr} {ta tb tc : DE} {t : DA} {pos p apos : Pos} {k : Nat} {x mn : Str}
def dFmt (rows : List (Kl × DFn)) (t : DE) : DE := fun e m => (t e m).bind fun d m1 => match d with
  | .str y => if y.length ≤ sizeLine then .ok (.str y) m1 else .stuck
  | .int i => if i.natAbs.log2 < 1920 then .ok (.str (toString i)) m1 else .stuck
  | d => dOwnStr rows [d] m1
def dJs : List DE → Str → DE
  | [], acc, _, m => .ok (.str acc) m
  | t :: ts, acc, e, m => (t e m).bind fun d m1 => match d with
    | .str y => if (acc ++ y).length ≤ sizeLine then dJs ts (acc ++ y) e m1 else .stuck
    | _ => .stuck
structure MTK (P : Program) (w : World) (K : PySem.W.Frag) (mg : Str → Option Value) (base : Heap) (k : Nat) (mn : Str) (n : Nat) (ks : List Str) (c : Kl) (G : DFn) : Prop where
  cl : Cls K c.a
  no : mn ∉ c.ns
  ex : ∃ (f : Addr) (fd : FuncData) (ps : List Str) (pl : List Nat) (dds : List D) (G0 : DFn), PySem.W.findIn K (.ref c.a) mn = some (some (.ref f)) ∧ PySem.W.isFn K (.ref f) = true ∧ PySem.W.keepIn K (.ref f) = true ∧ FnD P w K mg base k f fd ps G0 ∧ BK K fd ps (n + 1) ks pl dds ∧
    G = fun ds m => match pick pl (ds ++ dds) with
      | some xs => G0 xs m
      | none => .stuck
def dMethK (rows : List (Kl × DFn)) (n nk : Nat) (to : DE) (t u : DA) : DE := fun e m => (to e m).bind fun o m1 => match insOf m1 o with
  | some (C, ns, _) => match methAt rows C ns with
    | some G => (t e m1).bind fun ds m2 => (u e m2).bind fun zs m3 => if ds.length = n ∧ zs.length = nk then G (o :: (ds ++ zs)) m3 else .stuck
    | none => .stuck
  | none => .stuck
theorem pd_methK0 {ks : List Str} {kws : List Keyword} {to : DE} {tk : DA} {rows : List (Kl × DFn)} {pl : Sem Bool} (he : PDE X o to) (hrows : ∀ r ∈ rows, MTK X.prog X.w X.K X.mg X.base k mn 0 ks r.1 r.2) (hr : Room k X.A) (hkw : PDK X kws tk)
    (hks : (backToKw pos (keywordEach kws X.env)).filterMap (·.1) = ks := by rfl) (hall : (backToKw pos (keywordEach kws X.env)).all (·.1.isSome) = true := by rfl)
    (hpl : ((backTo pos (starEach [] X.env)).any (·.1) || (backToKw pos (keywordEach kws X.env)).any (·.1.isNone)) = false := by rfl)
    (ht : eval (.Call (.Attribute o mn apos) [] kws pos) X.env = (do
      let ov ← eval o X.env
      standAt apos.atName
      let (f, first) ← holding [ov] (getMethod ov mn pl)
      callWith pos f first (backTo pos (starEach [] X.env)) (backToKw pos (keywordEach kws X.env))) := by rfl) :
    PDE X (.Call (.Attribute o mn apos) [] kws pos) (dMethK rows 0 ks.length to dNil tk) := by
  intro S r m σ Q sa re q pins s I
  refine PySem.W.methodCall_KW (pl := pl) (thn (he.run sa re q I) ?_) ht
  rintro u s1 ⟨x, d, m1, T, st, sa1, rd, rx, I1, q1⟩
  split at q1
  · rename_i C ns ds ei
    split at q1
    · rename_i G eG
      obtain ⟨c, ok, rfl, rfl⟩ := methAt_ok (P := MTK X.prog X.w X.K X.mg X.base k mn 0 ks) hrows eG
      obtain ⟨a, dx, vs, rfl, h1, h2, h3⟩ := insOf_ok sa1 rd ei
      obtain ⟨f, fd, ps, plk, dds, G0, hf1, hf2, hk, hf, hb, rfl⟩ := ok.ex
      obtain rfl : u = Value.ref a := rx
      refine getmeth_ok I1 h1 ok.cl ⟨hf1, hf2, hk⟩ (lookup_not (by rw [h2]; exact ok.no)) ?_
      refine PySem.W.callWith_KW0 (first := [.ref a]) (h₀ := X.base) I.ok.mod.kin hk hall (thn (hkw.run sa1 (re.stp st) (f := fun zs m3 => if ([] : List D).length = 0 ∧ zs.length = ks.length then _ else .stuck) q1 I1 pos) ?_) hpl
      rintro ws s3 ⟨zs, dzs, m3, Z, st3, sa3, rdz, rz, I3, q3⟩
      refine ⟨I3.kIn, ?_⟩
      rw [hks]
      split at q3
      · rename_i hl
        dsimp only at q3
        split at q3
        · rename_i xs' hp
          exact run_fnK (us := [.ref a]) (vs := [.ref a]) (das := [d]) hf hr hb I3 sa3 (.cons (rd.stp st3) .nil) rdz (.cons rfl .nil) rz rfl hl.2 hp q3
        · exact q3.elim
      · exact q3.elim
    · exact (show False from q1).elim
  · exact (show False from q1).elim
end
end DL

namespace DL
open PySem PySem.Spec PyProof.Rows L2
variable [LamTab]
open Classical in
noncomputable def zapR (k : Nat) (r : Res D) : Res D := match r with
  | .ok d m2 => if Cl (m2.take k) ∧ (m2.take k).length = k then (match d with
      | .loc n => if n < k then .ok (.loc n) (m2.take k) else (match m2[n]? with
        | some (.lst ds) => if belows k ds = true then .ok (.lst ds) (m2.take k) else .stuck
        | _ => .stuck)
      | d => if below k d = true then .ok d (m2.take k) else .stuck) else .stuck
  | r => r
noncomputable def dZap (F : DFn) : DFn := fun ds m => zapR m.length (F ds m)
section
variable {K : PySem.W.Frag}
theorem zap_ok {S : Wd} {m : Mu} {r : Res D} {Q : VK} {W : XK} (sa : Sta K S m) (h : PostD K S (zapR m.length r) Q W) : PostD K S r Q W := by
  cases r with
  | stuck => exact h
  | exc C fs m2 => exact h
  | ok d m2 =>
    intro v T st saT rd
    unfold zapR at h
    dsimp only at h
    split at h
    · rename_i hc
      obtain ⟨hcl, hlen⟩ := hc
      obtain ⟨c1, c2⟩ := cut_ok sa st saT (by intro o ho; have := hcl o ho; rw [hlen] at this; exact this)
      have other : ∀ {d : D}, Rep K T.i T.F d v → below m.length d = true → PostD K S (.ok d (m2.take m.length)) Q W → Q v T.H := fun rd hb h =>
        h v (T.cut S.i) c1 c2 (rd.cut saT st.pre (by rw [sa.len]; exact hb))
      split at h
      · rename_i n
        split at h
        · rename_i hn
          exact other rd (by unfold below; exact decide_eq_true hn) h
        · rename_i hn
          split at h
          · rename_i ds e1
            split at h
            · rename_i hb
              cases rd with
              | @loc _ a ha =>
                obtain ⟨xs, q1, q2⟩ := saT.ok n a _ ha e1
                refine h (.ref a) (T.cut S.i) c1 c2 (.lst (.inl (.inl ?_)) (q2.cut saT st.pre (by rw [sa.len]; exact hb)))
                rw [cut_at sa st saT (by omega) ha]
                exact q1
            · exact h.elim
          · exact h.elim
      · split at h
        · rename_i hb
          exact other rd hb h
        · exact h.elim
    · exact h.elim
end
section
variable {P : Program} {w : World} {K : PySem.W.Frag} {mg : Str → Option Value} {base : Heap}
theorem FnD.zap {k : Nat} {f : Addr} {fd : FuncData} {ps : List Str} {F : DFn} (h : FnD P w K mg base k f fd ps F) : FnD P w K mg base k f fd ps (dZap F) :=
  FnOk.imp h fun vs H Q E ⟨h1, S, m, ds, h2, h3, h4, h5⟩ => ⟨h1, S, m, ds, h2, h3, h4, zap_ok h3 h5⟩
end
open Classical in
noncomputable def dLoopS (g : DG) (b : DS) (n : Nat) (ds0 : List D) : List D → En → Mu → RS
  | [], e, m => if m[n]? = some (.lst ds0) then .nx e m else .stuck
  | d :: ds, e, m => if m[n]? = some (.lst ds0) then (match g d e with
    | none => .stuck
    | some e1 => match b e1 m with
      | .nx e2 m2 => dLoopS g b n ds0 ds e2 m2
      | .ct e2 m2 => dLoopS g b n ds0 ds e2 m2
      | .bk e2 m2 => .nx e2 m2
      | .rt d m2 => .rt d m2
      | .exc C fs e2 m2 => .exc C fs e2 m2
      | .stuck => .stuck) else .stuck
noncomputable def forS1 (g : DG) (b : DS) (d : D) (e : En) (m1 : Mu) : RS := match d with
  | .lst ds => dLoop g b ds e m1
  | .loc n => match m1[n]? with
    | some (.lst ds) => dLoopS g b n ds ds e m1
    | _ => .stuck
  | _ => .stuck
noncomputable def dForS (t : DE) (g : DG) (b : DS) : DS := fun e m => rsOf e (t e m) fun d m1 => forS1 g b d e m1
section
variable {X : Cx} {tg a b : Expr} {es : List Expr} {ta tb : DE} {t : DA} {pos p tpos : Pos}
theorem pds_forS {iter : Expr} {body : List Stmt} {g : DG} {u : DS} {sl : List Nat} (hi : PDE X iter ta) (hg : PDG X tg g sl) (hb : PDSs X body u) (hc : X.calm = true) (hp : PassesOwn (model X.prog X.w) X.A X.env X.xe)
    (hs : ∀ x, foldedSetIterable iter X.env x = pure x := by intro _; rfl) : PDS X (.For tg iter body [] pos) (dForS ta g u) := by
  refine ps_of (ps_for hp hc (pi_list (mxE X iter)) (mxG X tg) (mxSs X body) hs) fun S r m σ N sa re p => ?_
  refine hi S r m σ _ sa re (?_)
  unfold dForS at p
  cases q : ta r m with
  | stuck => rw [q] at p; exact p
  | exc C fs m1 => rw [q] at p; exact fun dd vs T st hn sa1 h1 h2 => p dd vs σ T st hn sa1 (re.stp st) h1 h2
  | ok d m1 =>
    rw [q] at p
    intro v T st sa1 rd
    have p2 : PostS X.K T (forS1 g u d r m1) N (Fly X) := PostS.step st p
    clear p q
    have p := p2
    clear p2
    unfold forS1 at p
    split at p
    · rename_i ds
      obtain ⟨a, xs, rfl, hr, kk⟩ := frozen sa1 rd
      refine ⟨a, rfl, ⟨xs, (kk T m1 (Stp.refl T) sa1).1⟩, ?_⟩
      have hJ : ItOk X.K T (Itl X.K a) ds := fun U m' i st' sa' => ⟨fun d hd => by
          obtain ⟨v, hv, rv⟩ := (kk U m' st' sa').2.get hd
          refine ⟨⟨xs, v, (kk U m' st' sa').1, hv⟩, fun x H' hy => ⟨U, hy.1.symm, Stp.refl U, sa', ?_⟩⟩
          have := hy.2 xs (kk U m' st' sa').1
          rw [hv] at this; cases this
          exact rv, fun hl => ⟨xs, (kk U m' st' sa').1, by rw [← hr.len]; exact hl⟩⟩
      refine ⟨fun i n σ' H' => n = ds.length - i ∧ i ≤ ds.length ∧ ∃ (U : Wd) (e : En) (m' : Mu), U.H = H' ∧ Stp T U ∧ Sta X.K U m' ∧ RelE X.K U e σ' ∧ PostS X.K U (dLoop g u (ds.drop i) e m') N (Fly X),
        ⟨ds.length, by simp, Nat.zero_le _, T, r, m1, rfl, Stp.refl T, sa1, re.stp st, p⟩, ?_⟩
      rintro i n σ' H' ⟨rfl, hi', U, e, m', rfl, stU, saU, reU, pU⟩
      by_cases hlt : i < ds.length
      · refine .inr ⟨((hJ U m' i stU saU).1 _ (List.getElem?_eq_getElem hlt)).1, fun σ2 H2 => i + 1 ≤ ds.length ∧ ∃ (U2 : Wd) (e2 : En) (m2 : Mu), U2.H = H2 ∧ Stp T U2 ∧ Sta X.K U2 m2 ∧ RelE X.K U2 e2 σ2 ∧ PostS X.K U2 (dLoop g u (ds.drop (i + 1)) e2 m2) N (Fly X),
          fun σ2 H2 h2 => ⟨ds.length - (i + 1), by omega, rfl, h2.1, h2.2⟩, fun x H2 hy => ?_⟩
        obtain ⟨Y, rfl, stY, saY, rdY⟩ := ((hJ U m' i stU saU).1 _ (List.getElem?_eq_getElem hlt)).2 x H2 hy
        rw [List.drop_eq_getElem_cons hlt] at pU
        have pY := PostS.step stY pU
        unfold dLoop at pY
        cases qg : g ds[i] e with
        | none => rw [qg] at pY; exact pY.elim
        | some e1 =>
          rw [qg] at pY
          refine hg Y e m' σ' ds[i] x e1 _ saY (reU.stp stY) rdY qg fun σ1 re1 _ => hb Y e1 m' σ1 _ saY re1 ?_
          have stT := stU.trans stY
          dsimp only at pY
          cases qb : u e1 m' with
          | stuck => rw [qb] at pY; exact pY.elim
          | nx e2 m2 => rw [qb] at pY; exact fun σ2 Z stZ saZ reZ => ⟨hlt, Z, e2, m2, rfl, stT.trans stZ, saZ, reZ, PostS.step stZ pY⟩
          | ct e2 m2 => rw [qb] at pY; exact fun σ2 Z stZ saZ reZ => ⟨hlt, Z, e2, m2, rfl, stT.trans stZ, saZ, reZ, PostS.step stZ pY⟩
          | bk e2 m2 => rw [qb] at pY; exact pY
          | rt d m2 => rw [qb] at pY; exact pY
          | exc C fs e2 m2 => rw [qb] at pY; exact pY
      · have e : i = ds.length := by omega
        subst e
        rw [List.drop_length] at pU
        exact .inl ⟨(hJ U m' _ stU saU).2 (Nat.le_refl _), pU σ' U (Stp.refl U) saU reU⟩
    · rename_i n
      split at p
      · rename_i ds e0
        cases rd with
        | @loc _ a ha =>
        have look : ∀ U m', Stp T U → Sta X.K U m' → m'[n]? = some (.lst ds) → ∃ xs, SqL X.K U.H a xs ∧ Reps X.K U.i U.F ds xs := fun U m' st' sa' e' => by
          obtain ⟨xs, q1, q2⟩ := sa'.ok n a _ (pre_get st'.pre ha) e'
          exact ⟨xs, .inl (.inl q1), q2⟩
        have inj : ∀ U m', Sta X.K U m' → Stp T U → m'[n]? = some (.lst ds) → ∀ xs ys, SqL X.K U.H a xs → U.H a = some (.lst ys) → True := fun _ _ _ _ _ _ _ _ _ => True.intro
        obtain ⟨xs0, k1, k2⟩ := look T m1 (Stp.refl T) sa1 e0
        refine ⟨a, rfl, ⟨xs0, k1⟩, ?_⟩
        refine ⟨fun i nn σ' H' => nn = ds.length - i ∧ i ≤ ds.length ∧ ∃ (U : Wd) (e : En) (m' : Mu), U.H = H' ∧ Stp T U ∧ Sta X.K U m' ∧ RelE X.K U e σ' ∧ PostS X.K U (dLoopS g u n ds (ds.drop i) e m') N (Fly X),
          ⟨ds.length, by simp, Nat.zero_le _, T, r, m1, rfl, Stp.refl T, sa1, re.stp st, p⟩, ?_⟩
        rintro i nn σ' H' ⟨rfl, hi', U, e, m', rfl, stU, saU, reU, pU⟩
        by_cases hlt : i < ds.length
        · rw [List.drop_eq_getElem_cons hlt] at pU
          unfold dLoopS at pU
          split at pU
          · rename_i hgd
            obtain ⟨xs, l1, l2⟩ := look U m' stU saU hgd
            obtain ⟨v, hv, rv⟩ := l2.get (List.getElem?_eq_getElem hlt)
            refine .inr ⟨⟨xs, v, l1, hv⟩, fun σ2 H2 => i + 1 ≤ ds.length ∧ ∃ (U2 : Wd) (e2 : En) (m2 : Mu), U2.H = H2 ∧ Stp T U2 ∧ Sta X.K U2 m2 ∧ RelE X.K U2 e2 σ2 ∧ PostS X.K U2 (dLoopS g u n ds (ds.drop (i + 1)) e2 m2) N (Fly X),
              fun σ2 H2 h2 => ⟨ds.length - (i + 1), by omega, rfl, h2.1, h2.2⟩, fun x H2 hy => ?_⟩
            obtain ⟨rfl, hy2⟩ := hy
            have hx := hy2 xs l1
            rw [hv] at hx
            cases hx
            cases qg : g ds[i] e with
            | none => rw [qg] at pU; exact pU.elim
            | some e1 =>
              rw [qg] at pU
              refine hg U e m' σ' ds[i] v e1 _ saU reU rv qg fun σ1 re1 _ => hb U e1 m' σ1 _ saU re1 ?_
              dsimp only at pU
              cases qb : u e1 m' with
              | stuck => rw [qb] at pU; exact pU.elim
              | nx e2 m2 => rw [qb] at pU; exact fun σ2 Z stZ saZ reZ => ⟨hlt, Z, e2, m2, rfl, stU.trans stZ, saZ, reZ, PostS.step stZ pU⟩
              | ct e2 m2 => rw [qb] at pU; exact fun σ2 Z stZ saZ reZ => ⟨hlt, Z, e2, m2, rfl, stU.trans stZ, saZ, reZ, PostS.step stZ pU⟩
              | bk e2 m2 => rw [qb] at pU; exact pU
              | rt d m2 => rw [qb] at pU; exact pU
              | exc C fs e2 m2 => rw [qb] at pU; exact pU
          · exact pU.elim
        · have e : i = ds.length := by omega
          subst e
          rw [List.drop_length] at pU
          unfold dLoopS at pU
          split at pU
          · rename_i hgd
            obtain ⟨xs, l1, l2⟩ := look U m' stU saU hgd
            exact .inl ⟨⟨xs, l1, by rw [← l2.len]; exact Nat.le_refl _⟩, pU σ' U (Stp.refl U) saU reU⟩
          · exact pU.elim
      · exact p.elim
    · exact p.elim
def dLm (f : List D → List D → Option (List D × D)) (to : DE) (t : DA) : DE := fun e m => (to e m).bind fun o m1 => match o with
  | .loc n => match m1[n]? with
    | some (.lst _) => (t e m1).bind fun ds m2 => match m2[n]? with
      | some (.lst xs) => match f xs ds with
        | some (ys, d) => .ok d (m2.set n (.lst ys))
        | none => .stuck
      | _ => .stuck
    | _ => .stuck
  | _ => .stuck
def fAppend : List D → List D → Option (List D × D) := fun xs ds => match ds with
  | [d] => if xs.length < sizeLine then some (xs ++ [d], .non) else none
  | _ => none
def fClear : List D → List D → Option (List D × D) := fun _ ds => match ds with
  | [] => some ([], .non)
  | _ => none
def fInsert : List D → List D → Option (List D × D) := fun xs ds => match ds with
  | [.int i, d] => if 0 ≤ i ∧ i < 2 ^ 63 ∧ xs.length < sizeLine then some (xs.take i.toNat ++ [d] ++ xs.drop i.toNat, .non) else none
  | _ => none
section
variable {f : List D → List D → Option (List D × D)} {rr : V → List V → Hp → VK → Prop}
def LmOk (K : PySem.W.Frag) (f : List D → List D → Option (List D × D)) (rr : V → List V → Hp → VK → Prop) : Prop := ∀ (i : List Addr) (F H : Hp) (a : Addr) (xs ds ys : List D) (d : D) (vs us : List V) (Q : VK), H a = some (.lst vs) → Reps K i F xs vs → Reps K i F ds us → f xs ds = some (ys, d) →
  (∀ ws v, Reps K i F ys ws → Rep K i F d v → Q v (upd H a (.lst ws))) → rr (.ref a) us H Q
theorem ok_append (K : PySem.W.Frag) : LmOk K fAppend rAppend := by
  intro i F H a xs ds ys d vs us Q h1 r1 r2 hf q
  unfold fAppend at hf
  split at hf
  · rename_i d1
    split at hf
    · rename_i hl
      cases hf
      cases r2 with
      | cons h r =>
        cases r
        exact ⟨a, vs, _, rfl, rfl, h1, by rw [← r1.len]; exact hl, q _ _ (r1.append (.cons h .nil)) .non⟩
    · cases hf
  · cases hf
theorem ok_insert (K : PySem.W.Frag) : LmOk K fInsert (fun x vs H Q => ∃ (l : Addr) (xs : List V) (i : Int) (y : V), x = .ref l ∧ vs = [.int i, y] ∧ H l = some (.lst xs) ∧ xs.length < sizeLine ∧ 0 ≤ i ∧ i < 2 ^ 63 ∧ Q .non (upd H l (.lst (xs.take i.toNat ++ [y] ++ xs.drop i.toNat)))) := by
  intro i F H a xs ds ys d vs us Q h1 r1 r2 hf q
  unfold fInsert at hf
  split at hf
  · rename_i j d1
    split at hf
    · rename_i hj
      cases hf
      cases r2 with
      | cons h r =>
        cases h
        cases r with
        | cons h r =>
          cases r
          exact ⟨a, vs, j, _, rfl, rfl, h1, by rw [← r1.len]; exact hj.2.2, hj.1, hj.2.1, q _ _ (((r1.take _).append (.cons h .nil)).append (r1.drop _)) .non⟩
    · cases hf
  · cases hf
variable {o e : Expr} {to : DE} {name : Str} {apos cpos : Pos} {id : String}
theorem lm_fin (hm : LmOk X.K f rr) {T U : Wd} {σ : L2.St} {m2 : Mu} {n : Nat} {a : Addr} {ds xs : List D} {us : List V} {Q : VK} (ha : U.i[n]? = some a) (sa2 : Sta X.K U m2) (rds : Reps X.K U.i U.F ds us)
    (q2 : PostD X.K U (match m2[n]? with
      | some (.lst xs) => match f xs ds with
        | some (ys, d) => .ok d (m2.set n (.lst ys))
        | none => .stuck
      | _ => .stuck) Q (fun c d H => Fly X c d σ H)) : rr (.ref a) us U.H Q := by
  split at q2
  · rename_i xs e1
    split at q2
    · rename_i ys d e2
      obtain ⟨vs, h1, h2⟩ := sa2.ok n a _ ha e1
      refine hm U.i U.F U.H a xs ds ys d vs us Q h1 h2 rds e2 fun ws v rw rd => ?_
      obtain ⟨st, sa⟩ := sa2.put ha (o := .lst ws) (q := .lst ys) ⟨ws, upd_same, rw⟩
      exact q2 v (U.put a (.lst ws)) st sa rd
    · exact q2.elim
  · exact q2.elim
theorem pd_lm (slot : Slot "list" name id) (hty : typeOf (.builtin id) = pure (.type "method_descriptor")) (hr : MtR X id rr) (hm : LmOk X.K f rr) (ho : PDE X o to) (ha : PDA X (e :: es) t)
    (hbase : attributeBase o name X.env (eval o X.env) = eval o X.env := by rfl)
    (hfew : ((backTo cpos (starEach (e :: es) X.env)).all (fun x => !x.1) && (backToKw cpos (keywordEach [] X.env)).all (fun x => x.1.isSome)
      && decide ((e :: es).length + ([] : List Keyword).length + (if ([] : List Keyword).isEmpty then 0 else 1) < 30)) = true := by rfl)
    (hline : (apos.endLine == cpos.line) = true := by rfl) (hs : starEach (e :: es) X.env = (false, eval e X.env) :: starEach es X.env := by exact se_cons _ _ _ rfl) (hplain : (backTo cpos (starEach es X.env)).any (·.1) = false := by rfl) :
    PDE X (.Call (.Attribute o name apos) (e :: es) [] cpos) (dLm f to t) := by
  refine pd_of (pe_bm PySem.F.plainAttrs_list slot hty hr (mxE X o) (mxA X _) hbase hfew hline hs hplain) fun S r m σ Q sa re p => ?_
  refine ho S r m σ _ sa re (Post.bindI p fun od m1 v T st sa1 rd q => ?_)
  split at q
  · rename_i n
    split at q
    · rename_i xs0 e0
      cases rd with
      | @loc _ a ha' =>
      obtain ⟨vs0, h1, h2⟩ := sa1.ok n a _ ha' e0
      refine ⟨.inl ⟨rfl, vs0, .inl (.inl h1)⟩, ?_⟩
      refine ha T r m1 σ _ sa1 (re.stp st) (Post.bindI q fun ds m2 us U st2 sa2 rds q2 => ?_)
      exact lm_fin (T := T) (xs := xs0) hm (pre_get st2.pre ha') sa2 rds q2
    · exact q.elim
  · exact q.elim
theorem pd_append (ho : PDE X o to) (ha : PDA X [e] t) (hbase : attributeBase o "append" X.env (eval o X.env) = eval o X.env := by rfl)
    (hfew : ((backTo cpos (starEach [e] X.env)).all (fun x => !x.1) && (backToKw cpos (keywordEach [] X.env)).all (fun x => x.1.isSome)
      && decide ([e].length + ([] : List Keyword).length + (if ([] : List Keyword).isEmpty then 0 else 1) < 30)) = true := by rfl)
    (hline : (apos.endLine == cpos.line) = true := by rfl) (hs : starEach [e] X.env = (false, eval e X.env) :: starEach [] X.env := by rfl) (hplain : (backTo cpos (starEach [] X.env)).any (·.1) = false := by rfl) :
    PDE X (.Call (.Attribute o "append" apos) [e] [] cpos) (dLm fAppend to t) := pd_lm PySem.F.slot_list_append PySem.F.type_list_append mt_append (ok_append _) ho ha hbase hfew hline hs hplain
theorem pd_insert {e2 : Expr} (ho : PDE X o to) (ha : PDA X [e, e2] t) (hbase : attributeBase o "insert" X.env (eval o X.env) = eval o X.env := by rfl)
    (hfew : ((backTo cpos (starEach [e, e2] X.env)).all (fun x => !x.1) && (backToKw cpos (keywordEach [] X.env)).all (fun x => x.1.isSome)
      && decide ([e, e2].length + ([] : List Keyword).length + (if ([] : List Keyword).isEmpty then 0 else 1) < 30)) = true := by rfl)
    (hline : (apos.endLine == cpos.line) = true := by rfl) (hs : starEach [e, e2] X.env = (false, eval e X.env) :: starEach [e2] X.env := by rfl) (hplain : (backTo cpos (starEach [e2] X.env)).any (·.1) = false := by rfl) :
    PDE X (.Call (.Attribute o "insert" apos) [e, e2] [] cpos) (dLm fInsert to t) := pd_lm PySem.F.slot_list_insert PySem.F.type_list_insert L2.mt_insert (ok_insert _) ho ha hbase hfew hline hs hplain
end
end
end DL

namespace DL
open PySem PySem.Spec PyProof.Rows L2
variable [LamTab]
def Wd.adopt (S : Wd) (p : Addr) : Wd := ⟨S.i ++ [p], S.F, S.H⟩
section
variable {K : PySem.W.Frag} {S T : Wd} {m : Mu}
theorem Rep.adopt {p : Addr} {d : D} {v : V} (r : Rep K S.i S.F d v) : Rep K (S.adopt p).i (S.adopt p).F d v := r.mono (List.prefix_append _ _) (Ext.refl _)
theorem Reps.adopt {p : Addr} {d : List D} {v : List V} (r : Reps K S.i S.F d v) : Reps K (S.adopt p).i (S.adopt p).F d v := r.mono (List.prefix_append _ _) (Ext.refl _)
theorem Sta.adopt (sa : Sta K S m) {p : Addr} {ds : List D} {av : List V} (h0 : S.H p = some (.lst av)) (h1 : S.F p = none) (h2 : p ∉ S.i) (r : Reps K S.i S.F ds av) : Sta K (S.adopt p) (m ++ [.lst ds]) := by
  refine ⟨?_, by show (S.i ++ [p]).length = _; simp [sa.len], sa.sub, fun a ha => ?_, fun a ha => ?_, fun n a u e1 e2 => ?_, fun q hq => ?tb⟩
  case tb =>
    obtain ⟨ps, t1, t2, t3, t4, t5⟩ := sa.tb q hq
    exact ⟨ps, t1, t2, fun z => (List.mem_append.mp (show q.1 ∈ S.i ++ [p] from z)).elim t3 (fun z => by rw [List.mem_singleton.mp z, h0] at t1; cases t1), t4, t5⟩
  · show (S.i ++ [p]).Nodup
    refine List.nodup_append.mpr ⟨sa.nd, by simp, fun a ha b hb => ?_⟩
    have : b = p := List.mem_singleton.mp hb
    subst this
    exact fun z => h2 (z ▸ ha)
  · rcases List.mem_append.mp (show a ∈ S.i ++ [p] from ha) with z | z
    · exact sa.dis a z
    · have : a = p := List.mem_singleton.mp z
      subst this; exact h1
  · rcases List.mem_append.mp (show a ∈ S.i ++ [p] from ha) with z | z
    · exact sa.tr a z
    · have : a = p := List.mem_singleton.mp z
      subst this; exact ⟨_, h0⟩
  · have e1 : (S.i ++ [p])[n]? = some a := e1
    by_cases hn : n < S.i.length
    · rw [List.getElem?_append_left hn] at e1
      rw [List.getElem?_append_left (by rw [← sa.len]; exact hn)] at e2
      have q := sa.ok n a u e1 e2
      cases u with
      | lst ds => obtain ⟨xs, q1, q2⟩ := q; exact ⟨xs, q1, q2.adopt⟩
      | ins C fs => obtain ⟨dx, vs, q1, q2⟩ := q; exact ⟨dx, vs, q1, q2.mono (List.prefix_append _ _) (Ext.refl _)⟩
      | exo C d =>
        cases d with
        | none => exact q
        | some k => obtain ⟨dx, q1, q2⟩ := q; exact ⟨dx, pre_get (List.prefix_append _ _) q1, q2⟩
      | exd fs => obtain ⟨vs, q1, q2⟩ := q; exact ⟨vs, q1, q2.mono (List.prefix_append _ _) (Ext.refl _)⟩
      | dik kvs => obtain ⟨vs, q1, q0, q2⟩ := q; exact ⟨vs, q1, q0, q2.adopt⟩
      | dit kvs => obtain ⟨vs, q1, q0, q2⟩ := q; exact ⟨vs, q1, q0, q2.adopt⟩
    · have hn' : n = S.i.length := by
        have := (List.getElem?_eq_some_iff.mp e1).1
        simp at this; omega
      subst hn'
      rw [List.getElem?_append_right (Nat.le_refl _), Nat.sub_self] at e1
      rw [sa.len, List.getElem?_append_right (Nat.le_refl _), Nat.sub_self] at e2
      simp at e1 e2
      subst e1; subst e2
      exact ⟨av, h0, r.adopt⟩
theorem Stp.adopt (st : Stp T S) {p : Addr} (h : T.H p = none) : Stp T (S.adopt p) := ⟨st.pre.trans (List.prefix_append _ _), st.ext, fun a u hn h1 h2 h3 => by
  have ne : a ≠ p := ne_of_none h1 h
  obtain ⟨k1, k2, k3⟩ := st.frame a u hn h1 h2 h3
  refine ⟨k1, k2, fun z => ?_⟩
  rcases List.mem_append.mp (show a ∈ S.i ++ [p] from z) with z | z
  · exact k3 z
  · exact ne (List.mem_singleton.mp z), st.old⟩
end
open Classical in
noncomputable def dCompG (gd : Mu → Prop) (g : DG) (c : DT) (b : DE) (e : En) : List D → Mu → List D → Res (List D)
  | [], m, acc => if gd m then .ok acc m else .stuck
  | d :: ds, m, acc => if gd m then (match g d e with
    | none => .stuck
    | some e1 => match c e1 m with
      | .ok true m1 => match b e1 m1 with
        | .ok x m2 => if acc.length < sizeLine then dCompG gd g c b e ds m2 (acc ++ [x]) else .stuck
        | _ => .stuck
      | .ok false m1 => dCompG gd g c b e ds m1 acc
      | _ => .stuck) else .stuck
def fF : List D → Mu → Res D := fun xs m => .ok (.lst xs) m
def fM : List D → Mu → Res D := fun xs m => .ok (.loc m.length) (m ++ [.lst xs])
noncomputable def comp1 (fin : List D → Mu → Res D) (g : DG) (c : DT) (b : DE) (e : En) (d : D) (m : Mu) : Res D := match d with
  | .lst ds => (dCompL g c b e ds m []).bind fin
  | .loc n => match m[n]? with
    | some (.lst ds) => (dCompG (fun m => m[n]? = some (.lst ds)) g c b e ds m []).bind fin
    | _ => .stuck
  | _ => .stuck
noncomputable def dCompS (fin : List D → Mu → Res D) (t : DE) (g : DG) (c : DT) (b : DE) (own : List Nat) : DE := fun e m => (t e m).bind fun d m1 => comp1 fin g c b (wipeE e own) d m1
noncomputable def dCompM (t : DA) (g : DG) (c : DT) (b : DE) (own : List Nat) : DE := fun e m => (t e m).bind fun ds m1 => (dCompL g c b (wipeE e own) ds m1 []).bind fM
theorem compG_true (g : DG) (c : DT) (b : DE) (e : En) : ∀ (ds : List D) (m : Mu) (acc : List D), dCompG (fun _ => True) g c b e ds m acc = dCompL g c b e ds m acc
  | [], m, acc => by unfold dCompG dCompL; simp
  | d :: ds, m, acc => by
    unfold dCompG dCompL
    rw [if_pos trivial]
    cases g d e with
    | none => rfl
    | some e1 =>
      dsimp only
      cases c e1 m with
      | stuck => rfl
      | exc C fs m1 => rfl
      | ok k m1 =>
        cases k with
        | false => exact compG_true g c b e ds m1 acc
        | true =>
          dsimp only
          cases b e1 m1 with
          | stuck => rfl
          | exc C fs m2 => rfl
          | ok x m2 =>
            dsimp only
            rw [compG_true g c b e ds m2 (acc ++ [x])]
def ItOkG (K : PySem.W.Frag) (gd : Mu → Prop) (T : Wd) (J : It) (ds : List D) : Prop := ∀ (U : Wd) (m : Mu) (i : Nat), Stp T U → Sta K U m → gd m →
  (∀ d, ds[i]? = some d → J.go i U.H ∧ ∀ x H', J.yld i U.H x H' → ∃ Y : Wd, Y.H = H' ∧ Stp U Y ∧ Sta K Y m ∧ Rep K Y.i Y.F d x) ∧ (ds.length ≤ i → J.stop i U.H)
def FinOk (K : PySem.W.Frag) (fin : List D → Mu → Res D) : Prop := ∀ (T U : Wd) (m : Mu) (acc : List D) (av : List V) (p : Addr) (Q : VK) (W : XK), Stp T U → Sta K U m → T.H p = none → U.H p = some (.lst av) → U.F p = none → p ∉ U.i → Reps K U.i U.F acc av → PostD K T (fin acc m) Q W → Q (.ref p) U.H
theorem fin_F (K : PySem.W.Frag) : FinOk K fF := fun T U m acc av p Q W st sa h0 h1 h2 h3 r q =>
  q (.ref p) (U.keep p (.lst av)) (st.kept h0 h2) (sa.keep h1 h2 h3 (by exact nofun)) (.lst (.inl (.inl upd_same)) (r.mono (List.prefix_refl _) (Ext.updNew h2)))
theorem fin_M (K : PySem.W.Frag) : FinOk K fM := fun T U m acc av p Q W st sa h0 h1 h2 h3 r q =>
  q (.ref p) (U.adopt p) (st.adopt h0) (sa.adopt h1 h2 h3 r) (.loc (by
    show (U.i ++ [p])[m.length]? = some p
    rw [← sa.len, List.getElem?_append_right (Nat.le_refl _), Nat.sub_self]; rfl))
section
variable {X : Cx} {elt tg iter : Expr} {ifs : List Expr} {scope : Scope} {own : List (Str × Nat)} {pos spos : Pos} {t : DA} {ta : DE} {g : DG} {c : DT} {b : DE} {sl : List Nat} {fin : List D → Mu → Res D} {gd : Mu → Prop}
theorem lc_goG {σ : L2.St} {T : Wd} {r : En} {m1 : Mu} {Q : VK} {ds : List D} {J : It}
    (hg : ∀ s H C cl fp, PDG (Bk X scope s H C cl fp) tg g sl) (ht : ∀ s H C cl fp, PDTs (Bk X scope s H C cl fp) ifs c) (he : ∀ s H C cl fp, PDE (Bk X scope s H C cl fp) elt b)
    (hsl : ∀ i ∈ sl, i ∈ own.map (·.2)) (hfin : FinOk X.K fin)
    (sa1 : Sta X.K T m1) (re : RelE X.K T r σ) (hJ : ItOkG X.K gd T J ds) (p : PostD X.K T ((dCompG gd g c b (wipeE r (own.map (·.2))) ds m1 []).bind fin) Q (fun c d H => Fly X c d σ H)) :
    ∀ Dd : Addr, T.H Dd = none → ∃ Wi : Nat → Nat → Hp → Prop, (∃ n, Wi 0 n (upd T.H Dd (.lst []))) ∧ ∀ i n H', Wi i n H' →
      (J.stop i H' ∧ Q (.ref Dd) H') ∨ (J.go i H' ∧ ∃ N : Hp → Prop, (∀ H2, N H2 → ∃ n', n' < n ∧ Wi (i + 1) n' H2) ∧
        ∀ x H2, J.yld i H' x H2 → bG X scope tg x (wipe σ (own.map (·.2))) H2 fun σ1 H3 => wipe σ1 (own.map (·.2)) = wipe σ (own.map (·.2)) ∧
          bT X scope ifs σ1 H3 fun k H4 => if k = true then bE X scope elt σ1 H4 fun y H5 => ∃ xs, H5 Dd = some (.lst xs) ∧ xs.length < sizeLine ∧ N (upd H5 Dd (.lst (xs ++ [y]))) else N H4) := by
  intro Dd hD
  have reW : RelE X.K T (wipeE r (own.map (·.2))) (wipe σ (own.map (·.2))) := re.wipe _
  have f0 := sa1.fresh hD
  refine ⟨fun i n H' => n = ds.length - i ∧ i ≤ ds.length ∧ ∃ (U : Wd) (m' : Mu) (acc : List D) (av : List V), U.H = H' ∧ Stp T U ∧ Sta X.K U m' ∧ U.H Dd = some (.lst av) ∧ U.F Dd = none ∧ Dd ∉ U.i ∧ Reps X.K U.i U.F acc av ∧
      PostD X.K T ((dCompG gd g c b (wipeE r (own.map (·.2))) (ds.drop i) m' acc).bind fin) Q (fun c d H => Fly X c d σ H),
    ⟨ds.length, by simp, Nat.zero_le _, T.put Dd (.lst []), m1, [], [], rfl, (Stp.refl T).hid hD, sa1.hid f0.1 f0.2 (by rw [hD]; exact nofun), upd_same, f0.1, f0.2, .nil, p⟩, ?_⟩
  rintro i n H' ⟨rfl, hi', U, m', acc, av, rfl, stU, saU, hU1, hU2, hU3, rA, pU⟩
  by_cases hlt : i < ds.length
  · rw [List.drop_eq_getElem_cons hlt] at pU
    unfold dCompG at pU
    split at pU
    · rename_i hgd
      have hJ1 := (hJ U m' i stU saU hgd).1 _ (List.getElem?_eq_getElem hlt)
      refine .inr ⟨hJ1.1, fun H2 => i + 1 ≤ ds.length ∧ ∃ (U : Wd) (m' : Mu) (acc : List D) (av : List V), U.H = H2 ∧ Stp T U ∧ Sta X.K U m' ∧ U.H Dd = some (.lst av) ∧ U.F Dd = none ∧ Dd ∉ U.i ∧ Reps X.K U.i U.F acc av ∧
          PostD X.K T ((dCompG gd g c b (wipeE r (own.map (·.2))) (ds.drop (i + 1)) m' acc).bind fin) Q (fun c d H => Fly X c d σ H),
          fun H2 h2 => ⟨ds.length - (i + 1), by omega, rfl, h2.1, h2.2⟩, fun x H2 hy => ?_⟩
      obtain ⟨Y, rfl, stY, saY, rdY⟩ := hJ1.2 x H2 hy
      obtain ⟨y1, y2, y3⟩ := stY.frame Dd _ (by exact nofun) hU1 hU2 hU3
      have stT := stU.trans stY
      cases qg : g ds[i] (wipeE r (own.map (·.2))) with
      | none => rw [qg] at pU; exact (show False from pU).elim
      | some e1 =>
        rw [qg] at pU
        dsimp only at pU
        intro s0 H0 C0 cl0 fp0
        refine hg s0 H0 C0 cl0 fp0 Y (wipeE r (own.map (·.2))) m' (wipe σ (own.map (·.2))) ds[i] x e1 _ saY (reW.stp stT) rdY qg ?_
        intro σ1 re1 bs
        refine ⟨?_, ?_⟩
        · rw [bs _ hsl]
          exact wipe_wipe _ _
        intro s0 H0 C0 cl0 fp0
        cases qc : c e1 m' with
        | stuck => rw [qc] at pU; exact (show False from pU).elim
        | exc C fs m2 => rw [qc] at pU; exact (show False from pU).elim
        | ok k m2 =>
          rw [qc] at pU
          refine ht s0 H0 C0 cl0 fp0 Y e1 m' σ1 _ saY re1 ?_
          rw [qc]
          intro k' Z stZ saZ hk
          cases (show k = k' from hk)
          obtain ⟨z1, z2, z3⟩ := stZ.frame Dd _ (by exact nofun) y1 y2 y3
          cases k with
          | false =>
            exact iteF ⟨hlt, Z, m2, acc, av, rfl, stT.trans stZ, saZ, z1, z2, z3, (rA.stp stY).stp stZ, pU⟩
          | true =>
            refine iteT ?_
            intro s0 H0 C0 cl0 fp0
            dsimp only at pU
            cases qb : b e1 m2 with
            | stuck => rw [qb] at pU; exact (show False from pU).elim
            | exc C fs m3 => rw [qb] at pU; exact (show False from pU).elim
            | ok dx m3 =>
              rw [qb] at pU
              refine he s0 H0 C0 cl0 fp0 Z e1 m2 σ1 _ saZ (re1.stp stZ) ?_
              rw [qb]
              intro vx V1 stV saV rx
              obtain ⟨w1, w2, w3⟩ := stV.frame Dd _ (by exact nofun) z1 z2 z3
              dsimp only at pU
              split at pU
              · rename_i hlen
                refine ⟨av, w1, by rw [← rA.len]; exact hlen, hlt, V1.put Dd (.lst (av ++ [vx])), m3, acc ++ [dx], av ++ [vx], rfl, ((stT.trans stZ).trans stV).hid hD, saV.hid w2 w3 (by rw [w1]; exact nofun), upd_same, w2, w3, ((((rA.stp stY).stp stZ).stp stV)).append (.cons rx .nil), pU⟩
              · exact (show False from pU).elim
    · exact (show False from pU).elim
  · have e : i = ds.length := by omega
    subst e
    rw [List.drop_length] at pU
    unfold dCompG at pU
    split at pU
    · rename_i hgd
      exact .inl ⟨(hJ U m' _ stU saU hgd).2 (Nat.le_refl _), hfin T U m' acc av Dd Q _ stU saU hD hU1 hU2 hU3 rA pU⟩
    · exact (show False from pU).elim
theorem lc_goS {σ : L2.St} {S : Wd} {r : En} {m : Mu} {Q : VK} (hi : PDE X iter ta)
    (hg : ∀ s H C cl fp, PDG (Bk X scope s H C cl fp) tg g sl) (ht : ∀ s H C cl fp, PDTs (Bk X scope s H C cl fp) ifs c) (he : ∀ s H C cl fp, PDE (Bk X scope s H C cl fp) elt b)
    (hsl : ∀ i ∈ sl, i ∈ own.map (·.2)) (hfin : FinOk X.K fin)
    (sa : Sta X.K S m) (re : RelE X.K S r σ) (p : PostD X.K S (dCompS fin ta g c b (own.map (·.2)) r m) Q (fun c d H => Fly X c d σ H)) :
    tLc (iList X.K (WE X iter)) (bG X scope tg) (bT X scope ifs) (bE X scope elt) (own.map (·.2)) σ S.H Q := by
  refine hi S r m σ _ sa re (Post.bindI p fun d m1 v T st sa1 rd q => ?_)
  unfold comp1 at q
  split at q
  · rename_i ds
    obtain ⟨a, xs, rfl, hr, kk⟩ := frozen sa1 rd
    refine ⟨a, rfl, ⟨xs, (kk T m1 (Stp.refl T) sa1).1⟩, ?_⟩
    rw [← compG_true] at q
    refine lc_goG hg ht he hsl hfin sa1 (re.stp st) (fun U m' i st' sa' _ => ⟨fun d hd => ?_, fun hl => ⟨xs, (kk U m' st' sa').1, by rw [← hr.len]; exact hl⟩⟩) q
    obtain ⟨v, hv, rv⟩ := (kk U m' st' sa').2.get hd
    refine ⟨⟨xs, v, (kk U m' st' sa').1, hv⟩, fun x H' hy => ⟨U, hy.1.symm, Stp.refl U, sa', ?_⟩⟩
    have := hy.2 xs (kk U m' st' sa').1
    rw [hv] at this; cases this
    exact rv
  · rename_i n
    split at q
    · rename_i ds e0
      cases rd with
      | @loc _ a ha =>
      have look : ∀ U m', Stp T U → Sta X.K U m' → m'[n]? = some (.lst ds) → ∃ xs, SqL X.K U.H a xs ∧ Reps X.K U.i U.F ds xs := fun U m' st' sa' e' => by
        obtain ⟨xs, q1, q2⟩ := sa'.ok n a _ (pre_get st'.pre ha) e'
        exact ⟨xs, .inl (.inl q1), q2⟩
      obtain ⟨xs0, k1, k2⟩ := look T m1 (Stp.refl T) sa1 e0
      refine ⟨a, rfl, ⟨xs0, k1⟩, ?_⟩
      refine lc_goG (gd := fun m => m[n]? = some (.lst ds)) hg ht he hsl hfin sa1 (re.stp st) (fun U m' i st' sa' hgd => ?_) q
      obtain ⟨xs, l1, l2⟩ := look U m' st' sa' hgd
      refine ⟨fun d hd => ?_, fun hl => ⟨xs, l1, by rw [← l2.len]; exact hl⟩⟩
      obtain ⟨v, hv, rv⟩ := l2.get hd
      refine ⟨⟨xs, v, l1, hv⟩, fun x H' hy => ⟨U, hy.1.symm, Stp.refl U, sa', ?_⟩⟩
      have := hy.2 xs l1
      rw [hv] at this; cases this
      exact rv
    · exact (show False from q).elim
  · exact (show False from q).elim
theorem lc_goM {σ : L2.St} {S : Wd} {r : En} {m : Mu} {Q : VK} (hi : PDI X tg iter t)
    (hg : ∀ s H C cl fp, PDG (Bk X scope s H C cl fp) tg g sl) (ht : ∀ s H C cl fp, PDTs (Bk X scope s H C cl fp) ifs c) (he : ∀ s H C cl fp, PDE (Bk X scope s H C cl fp) elt b)
    (hsl : ∀ i ∈ sl, i ∈ own.map (·.2))
    (sa : Sta X.K S m) (re : RelE X.K S r σ) (p : PostD X.K S (dCompM t g c b (own.map (·.2)) r m) Q (fun c d H => Fly X c d σ H)) :
    tLc (WI X tg iter) (bG X scope tg) (bT X scope ifs) (bE X scope elt) (own.map (·.2)) σ S.H Q := by
  refine hi S r m σ _ sa re ?_
  unfold dCompM at p
  cases q : t r m with
  | stuck => rw [q] at p; exact p
  | exc C fs m1 => rw [q] at p; exact p
  | ok ds m1 =>
    rw [q] at p
    intro J T st sa1 hJ
    have pT : PostD X.K T ((dCompL g c b (wipeE r (own.map (·.2))) ds m1 []).bind fM) Q (fun c d H => Fly X c d σ H) := Post.step st p
    rw [← compG_true] at pT
    exact lc_goG hg ht he hsl (fin_M X.K) sa1 (re.stp st) (fun U m' i st' sa' _ => hJ U m' i st' sa') pT
abbrev mxBG (X : Cx) (scope : Scope) (tg : Expr) : ∀ s H C cl fp, PG (Bk X scope s H C cl fp) tg (bG X scope tg) := fun s H C cl fp => ⟨fun pins s1 σ H1 v u Q I r h => h s H C cl fp pins s1 u I r⟩
abbrev mxBT (X : Cx) (scope : Scope) (ifs : List Expr) : ∀ s H C cl fp, PTs (Bk X scope s H C cl fp) ifs (bT X scope ifs) := fun s H C cl fp => ⟨fun pins s1 σ H1 Q I h => h s H C cl fp pins s1 I⟩
abbrev mxBE (X : Cx) (scope : Scope) (elt : Expr) : ∀ s H C cl fp, PE (Bk X scope s H C cl fp) elt (bE X scope elt) := fun s H C cl fp => ⟨fun pins s1 σ H1 Q I h => h s H C cl fp pins s1 I⟩
theorem pd_lcS (hi : PDE X iter ta) (hN : X.N.Nodup) (ok : BlkOk X.N X.env.scope scope own)
    (hg : ∀ s H C cl fp, PDG (Bk X scope s H C cl fp) tg g sl) (ht : ∀ s H C cl fp, PDTs (Bk X scope s H C cl fp) ifs c) (he : ∀ s H C cl fp, PDE (Bk X scope s H C cl fp) elt b) (hfin : FinOk X.K fin)
    (hc : X.calm = true) (hsl : ∀ i ∈ sl, i ∈ own.map (·.2) := by decide) (hs : ∀ x, foldedSetIterable iter X.env x = pure x := by intro _; rfl) :
    PDE X (.ListComp elt [⟨tg, iter, ifs, 0⟩] scope pos) (dCompS fin ta g c b (own.map (·.2))) :=
  pd_of (pe_lc hc hN (pi_list (mxE X iter)) ok (mxBG X scope tg) (mxBT X scope ifs) (mxBE X scope elt) hs) fun S r m σ Q sa re p => lc_goS hi hg ht he hsl hfin sa re p
theorem pd_lcM (hi : PDI X tg iter t) (hN : X.N.Nodup) (ok : BlkOk X.N X.env.scope scope own)
    (hg : ∀ s H C cl fp, PDG (Bk X scope s H C cl fp) tg g sl) (ht : ∀ s H C cl fp, PDTs (Bk X scope s H C cl fp) ifs c) (he : ∀ s H C cl fp, PDE (Bk X scope s H C cl fp) elt b)
    (hc : X.calm = true) (hsl : ∀ i ∈ sl, i ∈ own.map (·.2) := by decide) (hs : ∀ x, foldedSetIterable iter X.env x = pure x := by intro _; rfl) :
    PDE X (.ListComp elt [⟨tg, iter, ifs, 0⟩] scope pos) (dCompM t g c b (own.map (·.2))) :=
  pd_of (pe_lc hc hN (mxI X tg iter) ok (mxBG X scope tg) (mxBT X scope ifs) (mxBE X scope elt) hs) fun S r m σ Q sa re p => lc_goM hi hg ht he hsl sa re p
theorem pds_setLcM {i : Nat} {y : Str} {py : Pos} (hi : PDI X tg iter t) (hN : X.N.Nodup) (ok : BlkOk X.N X.env.scope scope own)
    (hg : ∀ s H C cl fp, PDG (Bk X scope s H C cl fp) tg g sl) (ht : ∀ s H C cl fp, PDTs (Bk X scope s H C cl fp) ifs c) (he : ∀ s H C cl fp, PDE (Bk X scope s H C cl fp) elt b)
    (hc : X.calm = true) (hsw : swapsWith (.ListComp elt [⟨tg, iter, ifs, 0⟩] scope pos) (some (.Name y py)) spos.line X.env = pure true) (hsl : ∀ i ∈ sl, i ∈ own.map (·.2) := by decide) (hy : X.N[i]? = some y := by rfl) (hyl : X.env.scope.names.lookup y = some .local := by rfl) (hs : ∀ x, foldedSetIterable iter X.env x = pure x := by intro _; rfl) :
    PDS X (.Assign [.Name y py] (.ListComp elt [⟨tg, iter, ifs, 0⟩] scope pos) spos) (dSet i (dCompM t g c b (own.map (·.2)))) := by
  refine ps_of (ps_setLc hc hN hy hyl hsw (mxI X tg iter) ok (mxBG X scope tg) (mxBT X scope ifs) (mxBE X scope elt) hs) fun S r m σ N sa re p => ?_
  exact lc_goM hi hg ht he hsl sa re (PDE.stm re p fun d m1 v T st sa1 rd q => q _ T (Stp.refl T) sa1 ((re.stp st).set i rd))
end
end DL
namespace DL
open PySem PySem.Spec PyProof.Rows L2
variable [LamTab]
section
variable {X : Cx} {a : Expr} {ta : DE} {pos : Pos} {k : Nat}
def dNotO (rows : List (Kl × DFn)) (t : DE) : DE := fun e m => (dTrO rows t e m).bind fun b m => .ok (.bl !b) m
theorem pd_notO {rows : List (Kl × DFn)} (ha : PDE X a ta) (hrows : ∀ r ∈ rows, MRow X.prog X.w X.K X.mg X.base k "__bool__" r.1 r.2) (hr : Room k X.A) : PDE X (.UnaryOp .Not a pos) (dNotO rows ta) := by
  intro S r m σ Q sa re p pins s I
  unfold dNotO dTrO at p
  have p : PostD X.K S ((ta r m).bind fun d m => ((match dTru m d with
  | some b => .ok b m
  | none => match insOf m d with
    | some (C, ns, _) => match methAt rows C ns with
      | some G => (G [d] m).bind fun r m => match r with
        | .bl b => .ok b m
        | _ => .stuck
      | none => .stuck
    | none => .stuck) : Res Bool).bind fun b m => .ok (.bl !b) m) Q (fun c d H => Fly X c d σ H) := by
    cases h : ta r m with
    | stuck => rw [h] at p; exact p
    | exc C fs m1 => rw [h] at p; exact p
    | ok d m1 => rw [h] at p; exact p
  refine UnaryOp_ (thn (ha.run sa re p I) ?_)
  rintro u s1 ⟨x, d, m1, T, st, sa1, rd, rx, I1, q⟩
  split at q
  · rename_i b e
    exact not_of (tru_ok pins s1 σ T.H x u (fun b H => Q (.bl !b) H) I1 rx ⟨b, dTru_ok sa1 rd e, Post.ok q (Stp.refl T) sa1 (.bl _)⟩ |> fun h => thn h fun b s2 ⟨H2, I2, q2⟩ => ⟨.bl !b, H2, I2, rfl, q2⟩)
  · split at q
    · rename_i C ns ds ei
      split at q
      · rename_i G eG
        obtain ⟨c, ok, rfl, rfl⟩ := methAt_ok (P := MRow X.prog X.w X.K X.mg X.base k "__bool__") hrows eG
        obtain ⟨a, dx, vs, rfl, h1, h2, h3⟩ := insOf_ok sa1 rd ei
        obtain ⟨f, fd, ps, dds, G0, hf1, hf2, hk, hf, hb, rfl⟩ := ok.ex
        obtain rfl : u = Value.ref a := rx
        obtain ⟨od1, J1⟩ := Inv.inst I1 h1
        obtain ⟨mm, F⟩ := I1.fr
        have q : PostD X.K T ((padF ps.length dds G0 [d] m1).bind fun r m => ((match r with
          | .bl b => .ok b m
          | _ => .stuck : Res Bool)).bind fun b m => .ok (.bl !b) m) Q (fun c d H => Fly X c d σ H) := by
          cases h : padF ps.length dds G0 [d] m1 with
          | stuck => rw [h] at q; exact q
          | exc C fs m1 => rw [h] at q; exact q
          | ok d m1 => rw [h] at q; exact q
        refine not_of (PySem.W.truthy_K F I1.ok.mod.kin J1 hf1 hf2 (thn (run_fnA (us := [.ref a]) hf hr hb rfl I1 sa1 (.cons rd .nil) (.cons rfl .nil) (Post.bindI q fun r m2 v U st2 sa2 rv q2 => ?_)) fun v s2 h => boolBack (pins := pins) (σ := σ) h))
        cases rv with
        | bl b => exact ⟨b, rfl, fun s I => ⟨.bl !b, U.H, I, rfl, Post.ok q2 (Stp.refl U) sa2 (.bl _)⟩⟩
        | _ => exact (show False from q2).elim
      · exact (show False from q).elim
    · exact (show False from q).elim
end
end DL
namespace DL
open PySem PySem.Spec PyProof.Rows L2
variable [LamTab]
section
variable {X : Cx} {es : List Expr} {pos : Pos}
def dLstG (n : Nat) (g : List D → En → Option En) : DG := fun d e => match d with
  | .lst ds => if ds.length = n then g ds e else none
  | _ => none
@[simp ↓] theorem dLstG_ap (n : Nat) (g : List D → En → Option En) (d : D) (e : En) : dLstG n g d e = match d with
  | .lst ds => if ds.length = n then g ds e else none
  | _ => none := rfl
end
end DL
namespace DL
open PySem PySem.Spec PyProof.Rows L2
variable [LamTab]
@[simp ↓] theorem dTrO_ap (rows : List (Kl × DFn)) (t : DE) (e : En) (m : Mu) : dTrO rows t e m = (t e m).bind fun d m => match dTru m d with
  | some b => .ok b m
  | none => match insOf m d with
    | some (C, ns, _) => match methAt rows C ns with
      | some G => (G [d] m).bind fun r m => match r with
        | .bl b => .ok b m
        | _ => .stuck
      | none => .stuck
    | none => .stuck := rfl
@[simp ↓] theorem dNotO_ap (rows : List (Kl × DFn)) (t : DE) (e : En) (m : Mu) : dNotO rows t e m = (dTrO rows t e m).bind fun b m => .ok (.bl !b) m := rfl
@[simp] theorem gCat_ap (x y : D) (m : Mu) : gCat x y m = match seqL m x, seqL m y with
  | some xs, some ys => if xs.length + ys.length ≤ sizeLine then .ok (.lst (xs ++ ys)) m else .stuck
  | _, _ => .stuck := rfl
@[simp] theorem gCatM_ap (x y : D) (m : Mu) : gCatM x y m = match seqL m x, seqL m y with
  | some xs, some ys => if xs.length + ys.length ≤ sizeLine then .ok (.loc m.length) (m ++ [.lst (xs ++ ys)]) else .stuck
  | _, _ => .stuck := rfl
@[simp] theorem seqL_loc (m : Mu) (n : Nat) : seqL m (.loc n) = match m[n]? with
  | some (.lst ds) => some ds
  | _ => none := rfl
@[simp] theorem eqRow_nil (C : Addr) (ns : List Str) : eqRow [] C ns = none := rfl
@[simp] theorem eqRow_cons (c : Kl) (G : DFn × List Tg) (rest : List (Kl × DFn × List Tg)) (C : Addr) (ns : List Str) : eqRow ((c, G) :: rest) C ns = if C = c.a ∧ ns = c.ns then some G else eqRow rest C ns := rfl
@[simp ↓] theorem dMethK_ap (rows : List (Kl × DFn)) (n nk : Nat) (to : DE) (t u : DA) (e : En) (m : Mu) : dMethK rows n nk to t u e m = (to e m).bind fun o m1 => match insOf m1 o with
  | some (C, ns, _) => match methAt rows C ns with
    | some G => (t e m1).bind fun ds m2 => (u e m2).bind fun zs m3 => if ds.length = n ∧ zs.length = nk then G (o :: (ds ++ zs)) m3 else .stuck
    | none => .stuck
  | none => .stuck := rfl
@[simp] theorem dOwnEq_ap (neg : Bool) (rows : List (Kl × DFn × List Tg)) (x y : D) (m : Mu) : dOwnEq neg rows x y m = match insOf m x with
  | some (C, ns, _) => match eqRow rows C ns, tagOf m y with
    | some (G, ts), some t => if t ∈ ts then ((G [x, y] m).bind fun r m1 => match r with
        | .bl b => .ok (.bl (neg ^^ b)) m1
        | _ => .stuck) else .stuck
    | _, _ => .stuck
  | none => .stuck := rfl
@[simp] theorem dOwnIn_ap (neg : Bool) (rows : List (Kl × DFn)) (x y : D) (m : Mu) : dOwnIn neg rows x y m = match insOf m y with
  | some (C, ns, _) => match methAt rows C ns with
    | some G => (G [y, x] m).bind fun r m1 => match r with
      | .bl b => .ok (.bl (neg ^^ b)) m1
      | _ => .stuck
    | _ => .stuck
  | none => .stuck := rfl
@[simp] theorem dOwnStr_ap (rows : List (Kl × DFn)) (x : D) (m : Mu) : dOwnStr rows [x] m = match insOf m x with
  | some (C, ns, _) => match methAt rows C ns with
    | some G => (G [x] m).bind fun r m1 => match r with
      | .str z => .ok (.str z) m1
      | _ => .stuck
    | none => .stuck
  | none => .stuck := rfl
@[simp ↓] theorem dFmt_ap (rows : List (Kl × DFn)) (t : DE) (e : En) (m : Mu) : dFmt rows t e m = (t e m).bind fun d m1 => match d with
  | .str y => if y.length ≤ sizeLine then .ok (.str y) m1 else .stuck
  | .int i => if i.natAbs.log2 < 1920 then .ok (.str (toString i)) m1 else .stuck
  | d => dOwnStr rows [d] m1 := rfl
@[simp ↓] theorem dJs_nil (acc : Str) (e : En) (m : Mu) : dJs [] acc e m = .ok (.str acc) m := rfl
@[simp ↓] theorem dJs_cons (t : DE) (ts : List DE) (acc : Str) (e : En) (m : Mu) : dJs (t :: ts) acc e m = (t e m).bind fun d m1 => match d with
  | .str y => if (acc ++ y).length ≤ sizeLine then dJs ts (acc ++ y) e m1 else .stuck
  | _ => .stuck := rfl
@[simp ↓] theorem dForS_ap (t : DE) (g : DG) (b : DS) (e : En) (m : Mu) : dForS t g b e m = rsOf e (t e m) fun d m1 => forS1 g b d e m1 := rfl
@[simp ↓] theorem dCompS_ap (fin : List D → Mu → Res D) (t : DE) (g : DG) (c : DT) (b : DE) (own : List Nat) (e : En) (m : Mu) : dCompS fin t g c b own e m = (t e m).bind fun d m1 => comp1 fin g c b (wipeE e own) d m1 := rfl
@[simp ↓] theorem dCompM_ap (t : DA) (g : DG) (c : DT) (b : DE) (own : List Nat) (e : En) (m : Mu) : dCompM t g c b own e m = (t e m).bind fun ds m1 => (dCompL g c b (wipeE e own) ds m1 []).bind fM := rfl
@[simp] theorem fF_ap (xs : List D) (m : Mu) : fF xs m = .ok (.lst xs) m := rfl
@[simp] theorem fM_ap (xs : List D) (m : Mu) : fM xs m = .ok (.loc m.length) (m ++ [.lst xs]) := rfl
@[simp] theorem comp1_lst (fin : List D → Mu → Res D) (g : DG) (c : DT) (b : DE) (e : En) (ds : List D) (m : Mu) : comp1 fin g c b e (.lst ds) m = (dCompL g c b e ds m []).bind fin := rfl
@[simp ↓] theorem dLm_ap (f : List D → List D → Option (List D × D)) (to : DE) (t : DA) (e : En) (m : Mu) : dLm f to t e m = (to e m).bind fun o m1 => match o with
  | .loc n => match m1[n]? with
    | some (.lst _) => (t e m1).bind fun ds m2 => match m2[n]? with
      | some (.lst xs) => match f xs ds with
        | some (ys, d) => .ok d (m2.set n (.lst ys))
        | none => .stuck
      | _ => .stuck
    | _ => .stuck
  | _ => .stuck := rfl
@[simp] theorem fAppend_ap (xs : List D) (d : D) : fAppend xs [d] = if xs.length < sizeLine then some (xs ++ [d], .non) else none := rfl
@[simp] theorem fClear_ap (xs : List D) : fClear xs [] = some ([], .non) := rfl
@[simp ↓] theorem dCompL_cons (g : DG) (c : DT) (b : DE) (e : En) (d : D) (ds : List D) (m : Mu) (acc : List D) : dCompL g c b e (d :: ds) m acc = match g d e with
    | none => .stuck
    | some e1 => match c e1 m with
      | .ok true m1 => match b e1 m1 with
        | .ok x m2 => if acc.length < sizeLine then dCompL g c b e ds m2 (acc ++ [x]) else .stuck
        | _ => .stuck
      | .ok false m1 => dCompL g c b e ds m1 acc
      | _ => .stuck := rfl
end DL

namespace DL
open PySem PySem.Spec PyProof.Rows L2
variable [LamTab]
section
variable {X : Cx} {e o : Expr} {es : List Expr} {t : DA} {pos p : Pos} {x : Str} {k : Nat} {C : Addr} {G : DFn}
noncomputable def dMakeK (C : Addr) (G : DFn) (n nk : Nat) (t u : DA) : DE := fun e m => (t e m).bind fun ds m1 => (u e m1).bind fun zs m2 => if ds.length = n ∧ zs.length = nk then mkObj C m2 (G (.loc m2.length :: (ds ++ zs)) (m2 ++ [.ins C []])) else .stuck
@[simp ↓] theorem dMakeK_ap (C : Addr) (G : DFn) (n nk : Nat) (t u : DA) (e : En) (m : Mu) : dMakeK C G n nk t u e m = (t e m).bind fun ds m1 => (u e m1).bind fun zs m2 => if ds.length = n ∧ zs.length = nk then mkObj C m2 (G (.loc m2.length :: (ds ++ zs)) (m2 ++ [.ins C []])) else .stuck := rfl
def gMinL : DFn := fun ds m => match ds with
  | [d] => match (seqL m d).bind toIs with
    | some (n :: ns) => .ok (.int (minI (n :: ns))) m
    | _ => .stuck
  | _ => .stuck
def gMaxL : DFn := fun ds m => match ds with
  | [d] => match (seqL m d).bind toIs with
    | some (n :: ns) => .ok (.int (maxI (n :: ns))) m
    | _ => .stuck
  | _ => .stuck
@[simp] theorem gMinL_ap (d : D) (m : Mu) : gMinL [d] m = match (seqL m d).bind toIs with
    | some (n :: ns) => .ok (.int (minI (n :: ns))) m
    | _ => .stuck := rfl
@[simp] theorem gMaxL_ap (d : D) (m : Mu) : gMaxL [d] m = match (seqL m d).bind toIs with
    | some (n :: ns) => .ok (.int (maxI (n :: ns))) m
    | _ => .stuck := rfl
end
end DL

namespace DL
open PySem PySem.Spec PyProof.Rows L2
variable [LamTab]
section
variable {X : Cx} {a b e o tg : Expr} {es : List Expr} {ta tb to te : DE} {t : DA} {pos p apos : Pos} {k : Nat}
def toSs : List D → Option (List Str)
  | [] => some []
  | .str b :: ds => match toSs ds with
    | some bs => some (b :: bs)
    | none => none
  | _ => none
theorem toSs_ok {K : PySem.W.Frag} {i : List Addr} {F : Hp} : ∀ {ds : List D} {xs : List V} {bs : List Str}, Reps K i F ds xs → toSs ds = some bs → xs = bs.map V.str
  | [], _, _, r, h => by cases r; cases h; rfl
  | d :: ds, _, _, r, h => by
    cases r with
    | cons h1 h2 =>
      cases h1 with
      | str b =>
        unfold toSs at h
        cases q : toSs ds with
        | none => rw [q] at h; cases h
        | some bs => rw [q] at h; cases h; rw [toSs_ok h2 q]; rfl
      | _ => simp [toSs] at h
def dJoin (to te : DE) : DE := fun e m => (to e m).bind fun o m1 => match o with
  | .str a => (te e m1).bind fun d m2 => match (seqA m2 d).bind toSs with
    | some ys => if (ys.map (·.length)).sum + ys.length * a.length ≤ 16777216 then .ok (.str (Txt.join a ys)) m2 else .stuck
    | none => .stuck
  | _ => .stuck
@[simp ↓] theorem dJoin_ap (to te : DE) (e : En) (m : Mu) : dJoin to te e m = (to e m).bind fun o m1 => match o with
  | .str a => (te e m1).bind fun d m2 => match (seqA m2 d).bind toSs with
    | some ys => if (ys.map (·.length)).sum + ys.length * a.length ≤ 16777216 then .ok (.str (Txt.join a ys)) m2 else .stuck
    | none => .stuck
  | _ => .stuck := rfl
theorem pd_join (ho : PDE X o to) (he : PDE X e te) (hs : starEach [e] X.env = [(false, eval e X.env)] := by rfl) (hbase : attributeBase o "join" X.env (eval o X.env) = eval o X.env := by rfl) (hline : (apos.endLine == pos.line) = true := by rfl) :
    PDE X (.Call (.Attribute o "join" apos) [e] [] pos) (dJoin to te) := by
  refine pd_of (pe_join (mxE X o) (mxE X e) hs hbase hline) fun S r m σ Q sa re p => ?_
  refine ho S r m σ _ sa re (Post.bindI p fun od m1 v T st sa1 rd q => ?_)
  split at q
  · rename_i a
    cases rd
    refine ⟨⟨a, rfl⟩, he T r m1 σ _ sa1 (re.stp st) (Post.bindI q fun d m2 w U st2 sa2 rw q2 => ?_)⟩
    split at q2
    · rename_i ys e1
      split at q2
      · rename_i hl
        cases qs : seqA m2 d with
        | none => rw [qs] at e1; cases e1
        | some ds =>
          rw [qs] at e1
          have e1 : toSs ds = some ys := e1
          have fin := Post.ok q2 (Stp.refl U) sa2 (.str (Txt.join a ys))
          unfold seqA at qs
          cases q3 : seqL m2 d with
          | some zs =>
            rw [q3] at qs
            cases qs
            obtain ⟨pp, xs, rfl, h1, h2⟩ := seqL_ok sa2 rw q3
            have := toSs_ok h2 e1
            subst this
            exact ⟨a, pp, ys, rfl, rfl, .inl h1, hl, fin⟩
          | none =>
            rw [q3] at qs
            obtain ⟨pp, xs, rfl, h1, h2⟩ := seqT_ok sa2 rw qs
            have := toSs_ok h2 e1
            subst this
            exact ⟨a, pp, ys, rfl, rfl, .inr h1, hl, fin⟩
      · exact q2.elim
    · exact q2.elim
  · exact q.elim
def signs (x : Str) : List D := x.cps.toList.map fun c => .str ⟨#[c]⟩
def dItStr (t : DE) : DA := fun e m => (t e m).bind fun d m1 => match d with
  | .str x => .ok (signs x) m1
  | _ => .stuck
@[simp ↓] theorem dItStr_ap (t : DE) (e : En) (m : Mu) : dItStr t e m = (t e m).bind fun d m1 => match d with
  | .str x => .ok (signs x) m1
  | _ => .stuck := rfl
theorem pdi_str (ha : PDE X a ta) : PDI X tg a (dItStr ta) := by
  refine pdi_of (pi_str (mxE X a)) fun S r m σ R sa re p => ?_
  refine ha S r m σ _ sa re (PostI.bindI p fun d m1 v T st sa1 rd q => ?_)
  split at q
  · rename_i x
    cases rd
    refine ⟨x, rfl, q _ T (Stp.refl T) sa1 fun U m' i st' sa' => ⟨fun d hd => ?_, fun hl => ?_⟩⟩
    · unfold signs at hd
      rw [List.getElem?_map] at hd
      cases h : x.cps.toList[i]? with
      | none => rw [h] at hd; cases hd
      | some c =>
        rw [h] at hd
        cases hd
        have hi : i < x.cps.size := by simpa using (List.getElem?_eq_some_iff.mp h).1
        refine ⟨hi, fun y H' hy => ⟨U, hy.1.symm, Stp.refl U, sa', ?_⟩⟩
        obtain ⟨c', hc, rfl⟩ := hy.2
        have : c' = c := by
          rw [← Array.getElem?_toList] at hc
          rw [h] at hc
          exact (Option.some.inj hc).symm
        subst this
        exact .str _
    · show x.cps.size ≤ i
      unfold signs at hl
      simpa using hl
  · exact q.elim
def dSlStr (t : DE) (lo hi : DO) : DE := fun e m => (t e m).bind fun d m1 => (lo e m1).bind fun l m2 => (hi e m2).bind fun h m3 => match d with
  | .str z => if z.length ≤ sizeLine then .ok (.str (cutS z l h)) m3 else .stuck
  | _ => .stuck
@[simp ↓] theorem dSlStr_ap (t : DE) (lo hi : DO) (e : En) (m : Mu) : dSlStr t lo hi e m = (t e m).bind fun d m1 => (lo e m1).bind fun l m2 => (hi e m2).bind fun h m3 => match d with
  | .str z => if z.length ≤ sizeLine then .ok (.str (cutS z l h)) m3 else .stuck
  | _ => .stuck := rfl
theorem pd_slStr {lo hi : Option Expr} {tl th : DO} {p2 : Pos} (ha : PDE X a ta) (hl : PDO X lo tl) (hh : PDO X hi th) : PDE X (.Subscript a (.Slice lo hi none p2) pos) (dSlStr ta tl th) := by
  obtain ⟨ul, hl1, hl2⟩ := hl
  obtain ⟨uh, hh1, hh2⟩ := hh
  refine pd_of (pe_slice sl_str (mxE X a) hl1 hh1) fun S r m σ Q sa re p => ?_
  refine ha S r m σ _ sa re (Post.bindI p fun d m1 v T st sa1 rd q => ?_)
  refine hl2 T r m1 σ _ sa1 (re.stp st) (Post.bindI q fun l m2 l' U st2 sa2 rl q2 => ?_)
  have rl : l = l' := rl
  subst rl
  refine hh2 U r m2 σ _ sa2 ((re.stp st).stp st2) (Post.bindI q2 fun h m3 h' Y st3 sa3 rh q3 => ?_)
  have rh : h = h' := rh
  subst rh
  split at q3
  · rename_i z
    cases rd
    split at q3
    · rename_i hz
      exact ⟨z, rfl, hz, Post.ok q3 (Stp.refl Y) sa3 (.str _)⟩
    · exact q3.elim
  · exact q3.elim
def dSlT (t : DE) (lo hi : DO) : DE := fun e m => (t e m).bind fun d m1 => (lo e m1).bind fun l m2 => (hi e m2).bind fun h m3 => match d with
  | .tup ds => .ok (.tup (cutD ds l h)) m3
  | _ => .stuck
@[simp ↓] theorem dSlT_ap (t : DE) (lo hi : DO) (e : En) (m : Mu) : dSlT t lo hi e m = (t e m).bind fun d m1 => (lo e m1).bind fun l m2 => (hi e m2).bind fun h m3 => match d with
  | .tup ds => .ok (.tup (cutD ds l h)) m3
  | _ => .stuck := rfl
theorem cutV_whole {xs : List V} {lo hi : Option Int} (h : HT.sIx xs.length 0 lo = 0 ∧ HT.sIx xs.length xs.length hi = xs.length) : cutV xs lo hi = xs := by
  unfold cutV
  rw [h.1, h.2]; simp
theorem pd_slT {lo hi : Option Expr} {tl th : DO} {p2 : Pos} (ha : PDE X a ta) (hl : PDO X lo tl) (hh : PDO X hi th) : PDE X (.Subscript a (.Slice lo hi none p2) pos) (dSlT ta tl th) := by
  obtain ⟨ul, hl1, hl2⟩ := hl
  obtain ⟨uh, hh1, hh2⟩ := hh
  refine pd_of (pe_slice sl_tupA (mxE X a) hl1 hh1) fun S r m σ Q sa re p => ?_
  refine ha S r m σ _ sa re (Post.bindI p fun d m1 v T st sa1 rd q => ?_)
  refine hl2 T r m1 σ _ sa1 (re.stp st) (Post.bindI q fun l m2 l' U st2 sa2 rl q2 => ?_)
  have rl : l = l' := rl
  subst rl
  refine hh2 U r m2 σ _ sa2 ((re.stp st).stp st2) (Post.bindI q2 fun h m3 h' Y st3 sa3 rh q3 => ?_)
  have rh : h = h' := rh
  subst rh
  split at q3
  · rename_i ds
    have rd3 := (rd.stp st2).stp st3
    cases rd3 with
    | @tup _ a' xs h1 h2 =>
      have rc := cut_reps h2 l h
      refine ⟨a', xs, rfl, SqT.ext' h1 sa3.sub, fun hw => ?_, fun hw n hn => ?_⟩
      · rw [cutV_whole hw] at rc
        exact Post.ok q3 (Stp.refl Y) sa3 (.tup h1 rc)
      · have st4 := Stp.new sa3 (o := .tup (cutV xs l h)) hn
        exact q3 (.ref n) (Y.new n (.tup (cutV xs l h))) st4 (sa3.new hn) (.tup (.inl (.inl upd_same)) (rc.stp st4))
  · exact q3.elim
end
end DL

namespace GQ
open PySem PySem.SeqAt
open AutoSeq1 (wpAny_loadPart')
open MeetsSeq MeetsSeq2 MeetsSeq3 SeqRoads2
section
variable {prog : Program} {w : World} {A : Around} {R : Result → Shared → Prop}
def TwoL (l b : Addr) (N : Nat) (s : Shared) : Prop := ∃ (items items2 : Array Value) (n n2 : Nat) (dd dd2 : Option Addr) (sl sl2 : Array (Option Value)), s.heap.get? l = some { cls := .type "list", dict := dd, data := .seq items n, slots := sl } ∧ s.heap.get? b = some { cls := .type "list", dict := dd2, data := .seq items2 n2, slots := sl2 } ∧ items.size = N ∧ items2.size = N
def ListB (prog : Program) (w : World) (A : Around) (E : Value → Shared → Prop) (l b : Addr) (N : Nat) (I : Nat → Shared → Prop) (Fl : Shared → Prop) : Prop :=
  ∀ i s, I i s → ∃ (items items2 : Array Value) (n n2 : Nat) (dd dd2 : Option Addr) (sl sl2 : Array (Option Value)), s.heap.get? l = some { cls := .type "list", dict := dd, data := .seq items n, slots := sl } ∧ s.heap.get? b = some { cls := .type "list", dict := dd2, data := .seq items2 n2, slots := sl2 } ∧ items.size = N ∧ items2.size = N ∧
    ∀ (h1 : i < items.size) (h2 : i < items2.size), wpAny (model prog w) A.in1 (eqBool items[i] items2[i]) (fun r s' => if r then I (i + 1) s' else Fl s' ∧ TwoL l b N s') E s
theorem eq_loopE (l b : Addr) (N : Nat) (I : Nat → Shared → Prop) (Fl : Shared → Prop) (hl : ListB prog w A (fun e s' => R (.error e) s') l b N I Fl)
    (fin : ∀ s, I N s → R (.ok (.ret (.bool true))) s) (fal : ∀ s, Fl s → R (.ok (.ret (.bool false))) s) (k : Nat) :
    ∀ i : Nat, N - i = k → i ≤ N → ∀ s, I i s →
      wpAny (model prog w) A.in1 (Builtin.«list.__eq__.loop» ⟨[.ref l, .ref b, rawInt i, rawInt 2], []⟩) (FinOf prog w A R) (fun e s' => R (.error e) s') s := by
  induction k with
  | zero =>
    intro i hk hi s h
    obtain ⟨items, items2, n, n2, dd, dd2, sl, sl2, hl1, hb1, hs1, hs2, _⟩ := hl _ _ h
    have hi' : i = N := by omega
    have hR := fin s (hi' ▸ h)
    obtain ⟨hp, g, d, tk, os⟩ := s
    wp_walk using wpAny_loadPart' hl1, wpAny_loadPart' hb1
    have hi1 : items[((i : Nat) : Int).toNat]? = none := by simp; omega
    have hi2 : items2[((i : Nat) : Int).toNat]? = none := by simp; omega
    rw [hi1, hi2]
    wp_walk using wpAny_loadPart' hl1, wpAny_loadPart' hb1
    show R (.ok (.ret (.bool (items.size == items2.size)))) _
    rw [hs1, hs2]
    simpa using hR
  | succ k ih =>
    intro i hk hi s h
    obtain ⟨items, items2, n, n2, dd, dd2, sl, sl2, hl1, hb1, hs1, hs2, turn⟩ := hl _ _ h
    have hlt : i < items.size := by omega
    have hlt2 : i < items2.size := by omega
    have ht := turn hlt hlt2
    obtain ⟨hp, g, d, tk, os⟩ := s
    wp_walk using wpAny_loadPart' hl1, wpAny_loadPart' hb1
    have hi1 : items[((i : Nat) : Int).toNat]? = some items[i] := by simp [hlt]
    have hi2 : items2[((i : Nat) : Int).toNat]? = some items2[i] := by simp [hlt2]
    have hc : ((i : Int) + 1) = ((i + 1 : Nat) : Int) := by omega
    rw [hi1, hi2]
    refine wpAny_bind (wpAny_mono ht (fun r s2 h2 => ?_) fun _ _ x => x)
    cases r with
    | true =>
      have h2 : I (i + 1) s2 := h2
      have hrec := ih (i + 1) (by omega) (by omega) s2 h2
      obtain ⟨hp2, g2, d2, tk2, os2⟩ := s2
      wp_walk
      rw [hc]
      exact ⟨plainId_quiet plain_eq_loop _, codeAny_builtin entry_eq_loop (by
        rw [Around.under_plainId plain_eq_loop _]
        exact hrec)⟩
    | false =>
      obtain ⟨h2, it3, it4, n3, n4, dd3, dd4, sl3, sl4, hl3, hb3, hs3, hs4⟩ := (h2 : Fl s2 ∧ _)
      have hR := fal s2 h2
      have hlt3 : i < it3.size := by omega
      have hlt4 : i < it4.size := by omega
      have hi3 : it3[((i : Nat) : Int).toNat]? = some it3[i] := by simp [hlt3]
      have hi4 : it4[((i : Nat) : Int).toNat]? = some it4[i] := by simp [hlt4]
      obtain ⟨hp2, g2, d2, tk2, os2⟩ := s2
      wp_walk using wpAny_loadPart' hl3, wpAny_loadPart' hb3
      rw [hi3, hi4]
      wp_walk
      simpa using hR
theorem list_eqB (l b : Addr) (N : Nat) (I : Nat → Shared → Prop) (Fl : Shared → Prop) (hl : ListB prog w A (fun e s' => R (.error e) s') l b N I Fl)
    (fin : ∀ s, I N s → R (.ok (.ret (.bool true))) s) (fal : ∀ s, Fl s → R (.ok (.ret (.bool false))) s) {s : Shared} (h : I 0 s) :
    wpAny (model prog w) A.in1 (Builtin.«list.__eq__» ⟨[.ref l, .ref b], []⟩) (FinOf prog w A R) (fun e s' => R (.error e) s') s := by
  obtain ⟨items, items2, n, n2, dd, dd2, sl, sl2, hl1, hb1, hs1, hs2, _⟩ := hl _ _ h
  have hrec := eq_loopE (A := A) (R := R) l b N I Fl hl fin fal _ 0 rfl (Nat.zero_le _) s h
  obtain ⟨hp, g, d, tk, os⟩ := s
  have f3 := AutoSeq1.sub_list_list
  have hne : ¬ (items.size != items2.size) = true := by simp [hs1, hs2]
  wp_walk using wpAny_loadPart' hl1, wpAny_loadPart' hb1
  exact ⟨plainId_quiet plain_eq_loop _, codeAny_builtin entry_eq_loop (by
    rw [Around.under_plainId plain_eq_loop _]
    exact hrec)⟩
theorem list_eqL (l b : Addr) (items items2 : Array Value) (n n2 : Nat) (dd dd2 : Option Addr) (sl sl2 : Array (Option Value)) (hsz : items.size ≠ items2.size) {s : Shared} (hl1 : s.heap.get? l = some { cls := .type "list", dict := dd, data := .seq items n, slots := sl }) (hb1 : s.heap.get? b = some { cls := .type "list", dict := dd2, data := .seq items2 n2, slots := sl2 })
    (fal : R (.ok (.ret (.bool false))) s) :
    wpAny (model prog w) A.in1 (Builtin.«list.__eq__» ⟨[.ref l, .ref b], []⟩) (FinOf prog w A R) (fun e s' => R (.error e) s') s := by
  obtain ⟨hp, g, d, tk, os⟩ := s
  have f3 := AutoSeq1.sub_list_list
  have hne : (items.size != items2.size) = true := by simp [hsz]
  wp_walk using wpAny_loadPart' hl1, wpAny_loadPart' hb1
  exact fal
theorem tuple_eqB (l b : Addr) (items items2 : Array Value) (n n2 : Nat) (dd dd2 : Option Addr) (sl sl2 : Array (Option Value)) (I : Nat → Shared → Prop) (Fl : Shared → Prop)
    (turn : ∀ i (h1 : i < items.size) (h2 : i < items2.size) s, I i s → wpAny (model prog w) A.in1 (eqBool items[i] items2[i]) (fun r s' => if r then I (i + 1) s' else Fl s') (fun e s' => R (.error e) s') s)
    (fin : ∀ s, I (min items.size items2.size) s → R (.ok (.ret (.bool (items.size == items2.size)))) s) (fal : ∀ s, Fl s → R (.ok (.ret (.bool false))) s) {s : Shared} (hl1 : s.heap.get? l = some { cls := .type "tuple", dict := dd, data := .seq items n, slots := sl }) (hb1 : s.heap.get? b = some { cls := .type "tuple", dict := dd2, data := .seq items2 n2, slots := sl2 }) (h : I 0 s) :
    wpAny (model prog w) A.in1 (Builtin.«tuple.__eq__» ⟨[.ref l, .ref b], []⟩) (FinOf prog w A R) (fun e s' => R (.error e) s') s := by
  have f2 := AutoSeq1.sub_tuple_tuple
  have hZ : (items.toList.zip items2.toList).length = min items.size items2.size := by simp
  have h0 := h
  obtain ⟨hp, g, d, tk, os⟩ := s
  wp_walk using wpAny_loadPart' hl1, wpAny_loadPart' hb1, wpAny_forIn_list _ (fun rest b s' => (b.1 = none ∧ ∃ i, rest = (items.toList.zip items2.toList).drop i ∧ i ≤ min items.size items2.size ∧ I i s') ∨ (rest = [] ∧ b.1 = some (.done (.ret (.bool false))) ∧ Fl s')) _
  case turn =>
    rintro ⟨y, x⟩ rest b s' hyp
    rcases hyp with ⟨hb', i, hz, hi, hI⟩ | ⟨hz, _, _⟩
    · have hlt : i < (items.toList.zip items2.toList).length := by
        rcases Nat.lt_or_ge i (items.toList.zip items2.toList).length with h' | h'
        · exact h'
        · rw [List.drop_of_length_le h'] at hz; cases hz
      have h1 : i < items.size := by omega
      have h2 : i < items2.size := by omega
      rw [List.drop_eq_getElem_cons hlt] at hz
      injection hz with hyx hrest
      have hy : y = items[i] := by have := congrArg Prod.fst hyx; simpa using this
      have hx : x = items2[i] := by have := congrArg Prod.snd hyx; simpa using this
      subst hy hx
      refine wpAny_bind (wpAny_mono (turn i h1 h2 s' hI) (fun r s2 q2 => ?_) fun _ _ x => x)
      cases r with
      | true =>
        have q2 : I (i + 1) s2 := q2
        wp_walk
        exact .inl ⟨rfl, i + 1, hrest, by omega, q2⟩
      | false =>
        have q2 : Fl s2 := q2
        wp_walk
        exact fal s2 q2
    · cases hz
  case fin =>
    rintro ⟨b1, b2⟩ s' hyp
    rcases hyp with ⟨hb', i, hz, hi, hI⟩ | ⟨_, hb', hF⟩
    · simp only at hb'
      subst hb'
      have hge : min items.size items2.size ≤ i := by
        rcases Nat.lt_or_ge i (items.toList.zip items2.toList).length with h' | h'
        · rw [List.drop_eq_getElem_cons h'] at hz; cases hz
        · omega
      have hi' : i = min items.size items2.size := by omega
      have hR := fin s' (hi' ▸ hI)
      wp_walk
      simpa [Builtin.Tuple.tupleCompareSizes] using hR
    · simp only at hb'
      subst hb'
      have hR := fal s' hF
      wp_walk
      exact hR
  case h =>
    exact .inl ⟨rfl, 0, rfl, Nat.zero_le _, h0⟩
theorem eq_loopN (l b : Addr) (N : Nat) (I : Nat → Shared → Prop) (Fl : Shared → Prop) (hl : ListB prog w A (fun e s' => R (.error e) s') l b N I Fl)
    (fin : ∀ s, I N s → R (.ok (.ret (.bool false))) s) (fal : ∀ s, Fl s → R (.ok (.ret (.bool true))) s) (k : Nat) :
    ∀ i : Nat, N - i = k → i ≤ N → ∀ s, I i s →
      wpAny (model prog w) A.in1 (Builtin.«list.__eq__.loop» ⟨[.ref l, .ref b, rawInt i, rawInt 3], []⟩) (FinOf prog w A R) (fun e s' => R (.error e) s') s := by
  induction k with
  | zero =>
    intro i hk hi s h
    obtain ⟨items, items2, n, n2, dd, dd2, sl, sl2, hl1, hb1, hs1, hs2, _⟩ := hl _ _ h
    have hi' : i = N := by omega
    have hR := fin s (hi' ▸ h)
    obtain ⟨hp, g, d, tk, os⟩ := s
    wp_walk using wpAny_loadPart' hl1, wpAny_loadPart' hb1
    have hi1 : items[((i : Nat) : Int).toNat]? = none := by simp; omega
    have hi2 : items2[((i : Nat) : Int).toNat]? = none := by simp; omega
    rw [hi1, hi2]
    wp_walk using wpAny_loadPart' hl1, wpAny_loadPart' hb1
    show R (.ok (.ret (.bool (items.size != items2.size)))) _
    rw [hs1, hs2]
    simpa using hR
  | succ k ih =>
    intro i hk hi s h
    obtain ⟨items, items2, n, n2, dd, dd2, sl, sl2, hl1, hb1, hs1, hs2, turn⟩ := hl _ _ h
    have hlt : i < items.size := by omega
    have hlt2 : i < items2.size := by omega
    have ht := turn hlt hlt2
    obtain ⟨hp, g, d, tk, os⟩ := s
    wp_walk using wpAny_loadPart' hl1, wpAny_loadPart' hb1
    have hi1 : items[((i : Nat) : Int).toNat]? = some items[i] := by simp [hlt]
    have hi2 : items2[((i : Nat) : Int).toNat]? = some items2[i] := by simp [hlt2]
    have hc : ((i : Int) + 1) = ((i + 1 : Nat) : Int) := by omega
    rw [hi1, hi2]
    refine wpAny_bind (wpAny_mono ht (fun r s2 h2 => ?_) fun _ _ x => x)
    cases r with
    | true =>
      have h2 : I (i + 1) s2 := h2
      have hrec := ih (i + 1) (by omega) (by omega) s2 h2
      obtain ⟨hp2, g2, d2, tk2, os2⟩ := s2
      wp_walk
      rw [hc]
      exact ⟨plainId_quiet plain_eq_loop _, codeAny_builtin entry_eq_loop (by
        rw [Around.under_plainId plain_eq_loop _]
        exact hrec)⟩
    | false =>
      obtain ⟨h2, it3, it4, n3, n4, dd3, dd4, sl3, sl4, hl3, hb3, hs3, hs4⟩ := (h2 : Fl s2 ∧ _)
      have hR := fal s2 h2
      have hlt3 : i < it3.size := by omega
      have hlt4 : i < it4.size := by omega
      have hi3 : it3[((i : Nat) : Int).toNat]? = some it3[i] := by simp [hlt3]
      have hi4 : it4[((i : Nat) : Int).toNat]? = some it4[i] := by simp [hlt4]
      obtain ⟨hp2, g2, d2, tk2, os2⟩ := s2
      wp_walk using wpAny_loadPart' hl3, wpAny_loadPart' hb3
      rw [hi3, hi4]
      wp_walk
      simpa using hR
theorem list_neB (l b : Addr) (N : Nat) (I : Nat → Shared → Prop) (Fl : Shared → Prop) (hl : ListB prog w A (fun e s' => R (.error e) s') l b N I Fl)
    (fin : ∀ s, I N s → R (.ok (.ret (.bool false))) s) (fal : ∀ s, Fl s → R (.ok (.ret (.bool true))) s) {s : Shared} (h : I 0 s) :
    wpAny (model prog w) A.in1 (Builtin.«list.__ne__» ⟨[.ref l, .ref b], []⟩) (FinOf prog w A R) (fun e s' => R (.error e) s') s := by
  obtain ⟨items, items2, n, n2, dd, dd2, sl, sl2, hl1, hb1, hs1, hs2, _⟩ := hl _ _ h
  have hrec := eq_loopN (A := A) (R := R) l b N I Fl hl fin fal _ 0 rfl (Nat.zero_le _) s h
  obtain ⟨hp, g, d, tk, os⟩ := s
  have f3 := AutoSeq1.sub_list_list
  have hne : ¬ (items.size != items2.size) = true := by simp [hs1, hs2]
  wp_walk using wpAny_loadPart' hl1, wpAny_loadPart' hb1
  exact ⟨plainId_quiet plain_eq_loop _, codeAny_builtin entry_eq_loop (by
    rw [Around.under_plainId plain_eq_loop _]
    exact hrec)⟩
theorem list_neL (l b : Addr) (items items2 : Array Value) (n n2 : Nat) (dd dd2 : Option Addr) (sl sl2 : Array (Option Value)) (hsz : items.size ≠ items2.size) {s : Shared} (hl1 : s.heap.get? l = some { cls := .type "list", dict := dd, data := .seq items n, slots := sl }) (hb1 : s.heap.get? b = some { cls := .type "list", dict := dd2, data := .seq items2 n2, slots := sl2 })
    (fal : R (.ok (.ret (.bool true))) s) :
    wpAny (model prog w) A.in1 (Builtin.«list.__ne__» ⟨[.ref l, .ref b], []⟩) (FinOf prog w A R) (fun e s' => R (.error e) s') s := by
  obtain ⟨hp, g, d, tk, os⟩ := s
  have f3 := AutoSeq1.sub_list_list
  have hne : (items.size != items2.size) = true := by simp [hsz]
  wp_walk using wpAny_loadPart' hl1, wpAny_loadPart' hb1
  exact fal
theorem tuple_neB (l b : Addr) (items items2 : Array Value) (n n2 : Nat) (dd dd2 : Option Addr) (sl sl2 : Array (Option Value)) (I : Nat → Shared → Prop) (Fl : Shared → Prop)
    (turn : ∀ i (h1 : i < items.size) (h2 : i < items2.size) s, I i s → wpAny (model prog w) A.in1 (eqBool items[i] items2[i]) (fun r s' => if r then I (i + 1) s' else Fl s') (fun e s' => R (.error e) s') s)
    (fin : ∀ s, I (min items.size items2.size) s → R (.ok (.ret (.bool (items.size != items2.size)))) s) (fal : ∀ s, Fl s → R (.ok (.ret (.bool true))) s) {s : Shared} (hl1 : s.heap.get? l = some { cls := .type "tuple", dict := dd, data := .seq items n, slots := sl }) (hb1 : s.heap.get? b = some { cls := .type "tuple", dict := dd2, data := .seq items2 n2, slots := sl2 }) (h : I 0 s) :
    wpAny (model prog w) A.in1 (Builtin.«tuple.__ne__» ⟨[.ref l, .ref b], []⟩) (FinOf prog w A R) (fun e s' => R (.error e) s') s := by
  have f2 := AutoSeq1.sub_tuple_tuple
  have hZ : (items.toList.zip items2.toList).length = min items.size items2.size := by simp
  have h0 := h
  obtain ⟨hp, g, d, tk, os⟩ := s
  wp_walk using wpAny_loadPart' hl1, wpAny_loadPart' hb1, wpAny_forIn_list _ (fun rest b s' => (b.1 = none ∧ ∃ i, rest = (items.toList.zip items2.toList).drop i ∧ i ≤ min items.size items2.size ∧ I i s') ∨ (rest = [] ∧ b.1 = some (.done (.ret (.bool true))) ∧ Fl s')) _
  case turn =>
    rintro ⟨y, x⟩ rest b s' hyp
    rcases hyp with ⟨hb', i, hz, hi, hI⟩ | ⟨hz, _, _⟩
    · have hlt : i < (items.toList.zip items2.toList).length := by
        rcases Nat.lt_or_ge i (items.toList.zip items2.toList).length with h' | h'
        · exact h'
        · rw [List.drop_of_length_le h'] at hz; cases hz
      have h1 : i < items.size := by omega
      have h2 : i < items2.size := by omega
      rw [List.drop_eq_getElem_cons hlt] at hz
      injection hz with hyx hrest
      have hy : y = items[i] := by have := congrArg Prod.fst hyx; simpa using this
      have hx : x = items2[i] := by have := congrArg Prod.snd hyx; simpa using this
      subst hy hx
      refine wpAny_bind (wpAny_mono (turn i h1 h2 s' hI) (fun r s2 q2 => ?_) fun _ _ x => x)
      cases r with
      | true =>
        have q2 : I (i + 1) s2 := q2
        wp_walk
        exact .inl ⟨rfl, i + 1, hrest, by omega, q2⟩
      | false =>
        have q2 : Fl s2 := q2
        wp_walk
        exact fal s2 q2
    · cases hz
  case fin =>
    rintro ⟨b1, b2⟩ s' hyp
    rcases hyp with ⟨hb', i, hz, hi, hI⟩ | ⟨_, hb', hF⟩
    · simp only at hb'
      subst hb'
      have hge : min items.size items2.size ≤ i := by
        rcases Nat.lt_or_ge i (items.toList.zip items2.toList).length with h' | h'
        · rw [List.drop_eq_getElem_cons h'] at hz; cases hz
        · omega
      have hi' : i = min items.size items2.size := by omega
      have hR := fin s' (hi' ▸ hI)
      wp_walk
      simpa [Builtin.Tuple.tupleCompareSizes] using hR
    · simp only at hb'
      subst hb'
      have hR := fal s' hF
      wp_walk
      exact hR
  case h =>
    exact .inl ⟨rfl, 0, rfl, Nat.zero_le _, h0⟩
end
end GQ

namespace GQ
open PySem PySem.SeqAt PySem.Spec PyProof.Rows L2
open MeetsSeq MeetsSeq2 MeetsSeq3 SeqRoads2
section
variable {prog : Program} {w : World} {A : Around} {E : Value → Shared → Prop} {s : Shared}
theorem rc_listB {l b : Addr} {N : Nat} {Q : Value → Shared → Prop} (hu : A.units < cLine) (I : Nat → Shared → Prop) (Fl : Shared → Prop) (hl : ListB prog w A E l b N I Fl)
    (fin : ∀ s, I N s → Q (.bool true) s) (fal : ∀ s, Fl s → Q (.bool false) s) (h : I 0 s) : wpAny (model prog w) A (richCompare .Eq (.ref l) (.ref b)) Q E s := by
  obtain ⟨items, items2, n, n2, dd, dd2, sl, sl2, hl1, hb1, _, _, _⟩ := hl _ _ h
  refine wpAny_richCompare_same_room (op := .Eq) ⟨_, hl1, rfl⟩ ⟨_, hb1, rfl⟩ F.slot_list_eq (call_here F.slot_list_eq ⟨_, hl1, rfl⟩ F.entry_list_eq (F.args_list_eq_2 _ _) ?_) hu
  exact list_eqB (R := wants (fun v s' => v ≠ .notImplemented ∧ Q v s') E) l b N I Fl hl (fun s' q => ⟨(fun x => nomatch x), fin s' q⟩) (fun s' q => ⟨(fun x => nomatch x), fal s' q⟩) h
theorem rc_listNe {l b : Addr} {N : Nat} {Q : Value → Shared → Prop} (hu : A.units < cLine) (I : Nat → Shared → Prop) (Fl : Shared → Prop) (hl : ListB prog w A E l b N I Fl)
    (fin : ∀ s, I N s → Q (.bool false) s) (fal : ∀ s, Fl s → Q (.bool true) s) (h : I 0 s) : wpAny (model prog w) A (richCompare .NotEq (.ref l) (.ref b)) Q E s := by
  obtain ⟨items, items2, n, n2, dd, dd2, sl, sl2, hl1, hb1, _, _, _⟩ := hl _ _ h
  refine wpAny_richCompare_same_room (op := .NotEq) ⟨_, hl1, rfl⟩ ⟨_, hb1, rfl⟩ F.slot_list_ne (call_here F.slot_list_ne ⟨_, hl1, rfl⟩ F.entry_list_ne (F.args_list_ne_2 _ _) ?_) hu
  exact list_neB (R := wants (fun v s' => v ≠ .notImplemented ∧ Q v s') E) l b N I Fl hl (fun s' q => ⟨(fun x => nomatch x), fin s' q⟩) (fun s' q => ⟨(fun x => nomatch x), fal s' q⟩) h
theorem rc_listL {l b : Addr} {items items2 : Array Value} {n n2 : Nat} {dd dd2 : Option Addr} {sl sl2 : Array (Option Value)} {Q : Value → Shared → Prop} (hu : A.units < cLine) (hl1 : s.heap.get? l = some { cls := .type "list", dict := dd, data := .seq items n, slots := sl }) (hb1 : s.heap.get? b = some { cls := .type "list", dict := dd2, data := .seq items2 n2, slots := sl2 })
    (hsz : items.size ≠ items2.size) (h : Q (.bool false) s) : wpAny (model prog w) A (richCompare .Eq (.ref l) (.ref b)) Q E s := by
  refine wpAny_richCompare_same_room (op := .Eq) ⟨_, hl1, rfl⟩ ⟨_, hb1, rfl⟩ F.slot_list_eq (call_here F.slot_list_eq ⟨_, hl1, rfl⟩ F.entry_list_eq (F.args_list_eq_2 _ _) ?_) hu
  exact list_eqL (R := wants (fun v s' => v ≠ .notImplemented ∧ Q v s') E) l b items items2 n n2 dd dd2 sl sl2 hsz hl1 hb1 ⟨(fun x => nomatch x), h⟩
theorem rc_listLNe {l b : Addr} {items items2 : Array Value} {n n2 : Nat} {dd dd2 : Option Addr} {sl sl2 : Array (Option Value)} {Q : Value → Shared → Prop} (hu : A.units < cLine) (hl1 : s.heap.get? l = some { cls := .type "list", dict := dd, data := .seq items n, slots := sl }) (hb1 : s.heap.get? b = some { cls := .type "list", dict := dd2, data := .seq items2 n2, slots := sl2 })
    (hsz : items.size ≠ items2.size) (h : Q (.bool true) s) : wpAny (model prog w) A (richCompare .NotEq (.ref l) (.ref b)) Q E s := by
  refine wpAny_richCompare_same_room (op := .NotEq) ⟨_, hl1, rfl⟩ ⟨_, hb1, rfl⟩ F.slot_list_ne (call_here F.slot_list_ne ⟨_, hl1, rfl⟩ F.entry_list_ne (F.args_list_ne_2 _ _) ?_) hu
  exact list_neL (R := wants (fun v s' => v ≠ .notImplemented ∧ Q v s') E) l b items items2 n n2 dd dd2 sl sl2 hsz hl1 hb1 ⟨(fun x => nomatch x), h⟩
theorem rc_tupB {l b : Addr} {items items2 : Array Value} {Q : Value → Shared → Prop} (hu : A.units < cLine) (I : Nat → Shared → Prop) (Fl : Shared → Prop)
    (hl : s.heap.IsTuple l items) (hb : s.heap.IsTuple b items2)
    (turn : ∀ i (h1 : i < items.size) (h2 : i < items2.size) s, I i s → wpAny (model prog w) A.in1 (eqBool items[i] items2[i]) (fun r s' => if r then I (i + 1) s' else Fl s') E s)
    (fin : ∀ s, I (min items.size items2.size) s → Q (.bool (items.size == items2.size)) s) (fal : ∀ s, Fl s → Q (.bool false) s) (h : I 0 s) : wpAny (model prog w) A (richCompare .Eq (.ref l) (.ref b)) Q E s := by
  obtain ⟨⟨cls, dd, data, sl⟩, ho, hc, n, hd⟩ := id hl
  obtain ⟨⟨cls2, dd2, data2, sl2⟩, ho2, hc2, n2, hd2⟩ := id hb
  simp only at hc hd hc2 hd2
  subst hc hd hc2 hd2
  refine wpAny_richCompare_same_room (op := .Eq) ⟨_, ho, rfl⟩ ⟨_, ho2, rfl⟩ F.slot_tuple_eq (call_here F.slot_tuple_eq ⟨_, ho, rfl⟩ F.entry_tuple_eq (F.args_tuple_eq_2 _ _) ?_) hu
  exact tuple_eqB (R := wants (fun v s' => v ≠ .notImplemented ∧ Q v s') E) l b items items2 n n2 dd dd2 sl sl2 I Fl turn (fun s' q => ⟨(fun x => nomatch x), fin s' q⟩) (fun s' q => ⟨(fun x => nomatch x), fal s' q⟩) ho ho2 h
theorem rc_tupNe {l b : Addr} {items items2 : Array Value} {Q : Value → Shared → Prop} (hu : A.units < cLine) (I : Nat → Shared → Prop) (Fl : Shared → Prop)
    (hl : s.heap.IsTuple l items) (hb : s.heap.IsTuple b items2)
    (turn : ∀ i (h1 : i < items.size) (h2 : i < items2.size) s, I i s → wpAny (model prog w) A.in1 (eqBool items[i] items2[i]) (fun r s' => if r then I (i + 1) s' else Fl s') E s)
    (fin : ∀ s, I (min items.size items2.size) s → Q (.bool (items.size != items2.size)) s) (fal : ∀ s, Fl s → Q (.bool true) s) (h : I 0 s) : wpAny (model prog w) A (richCompare .NotEq (.ref l) (.ref b)) Q E s := by
  obtain ⟨⟨cls, dd, data, sl⟩, ho, hc, n, hd⟩ := id hl
  obtain ⟨⟨cls2, dd2, data2, sl2⟩, ho2, hc2, n2, hd2⟩ := id hb
  simp only at hc hd hc2 hd2
  subst hc hd hc2 hd2
  refine wpAny_richCompare_same_room (op := .NotEq) ⟨_, ho, rfl⟩ ⟨_, ho2, rfl⟩ F.slot_tuple_ne (call_here F.slot_tuple_ne ⟨_, ho, rfl⟩ F.entry_tuple_ne (F.args_tuple_ne_2 _ _) ?_) hu
  exact tuple_neB (R := wants (fun v s' => v ≠ .notImplemented ∧ Q v s') E) l b items items2 n n2 dd dd2 sl sl2 I Fl turn (fun s' q => ⟨(fun x => nomatch x), fin s' q⟩) (fun s' q => ⟨(fun x => nomatch x), fal s' q⟩) ho ho2 h
end
end GQ
namespace DL
open PySem PySem.Spec PyProof.Rows L2
variable [LamTab]
mutual
def solid : D → Bool
  | .non => true
  | .bl _ => true
  | .int _ => true
  | .str _ => true
  | .tup ds => solids ds
  | .lst ds => solids ds
  | .obj _ ds => solids ds
  | .loc _ => false
  | .val _ => false
  | .xob _ _ => false
  | .lam _ _ => false
  | .clo _ _ => false
  | .dct _ _ => false
def solids : List D → Bool
  | [] => true
  | d :: ds => solid d && solids ds
end
theorem relV_abs : ∀ {x : V} {u : Value}, RelV x u → absV u = some x
  | .non, _, h => by cases h; rfl
  | .bl _, _, h => by cases h; rfl
  | .int _, _, ⟨t, h⟩ => by cases h; rfl
  | .str _, _, ⟨t, h⟩ => by cases h; rfl
  | .byt _, _, ⟨t, h⟩ => by cases h; rfl
  | .flt _, _, ⟨t, h⟩ => by cases h; rfl
  | .ref _, _, h => by cases h; rfl
  | .ty _, _, h => by cases h; rfl
theorem relV_inj {x y : V} {u : Value} (h : RelV x u) (k : RelV y u) : x = y := Option.some.inj ((relV_abs h).symm.trans (relV_abs k))
theorem vals_inj : ∀ {xs ys : List V} {us : List Value}, Vals xs us → Vals ys us → xs = ys
  | _, _, _, .nil, .nil => rfl
  | _, _, _, .cons h r, .cons h' r' => by rw [relV_inj h h', vals_inj r r']
section
variable {X : Cx} {pins : List (Addr × Obj)} {σ : L2.St} {S : Wd} {m : Mu} {s : Shared}
theorem sqT_inj {H : Hp} (I : Inv X pins σ H s) {a : Addr} {xs ys : List V} (h : SqT X.K H a xs) (k : SqT X.K H a ys) : xs = ys := by
  obtain ⟨its, r, ⟨o, ho, hc, n, hd⟩, _⟩ := I.tuple h
  obtain ⟨its2, r2, ⟨o2, ho2, hc2, n2, hd2⟩, _⟩ := I.tuple k
  rw [ho] at ho2
  cases ho2
  rw [hd] at hd2
  injection hd2 with e1 e2
  have : its = its2 := by simpa using congrArg Array.toList e1
  subst this
  exact vals_inj r r2
theorem sqL_inj {H : Hp} (I : Inv X pins σ H s) {a : Addr} {xs ys : List V} (h : SqL X.K H a xs) (k : SqL X.K H a ys) : xs = ys := by
  obtain ⟨its, r, ⟨o, n, ho, hc, _, hd⟩, _⟩ := I.list h
  obtain ⟨its2, r2, ⟨o2, n2, ho2, hc2, _, hd2⟩, _⟩ := I.list k
  rw [ho] at ho2
  cases ho2
  rw [hd] at hd2
  injection hd2 with e1 e2
  have : its = its2 := by simpa using congrArg Array.toList e1
  subst this
  exact vals_inj r r2
theorem sq_no {H : Hp} (I : Inv X pins σ H s) {a : Addr} {xs ys : List V} (h : SqT X.K H a xs) (k : SqL X.K H a ys) : False := by
  obtain ⟨its, r, ⟨o, ho, hc, n, hd⟩, _⟩ := I.tuple h
  obtain ⟨its2, r2, ⟨o2, n2, ho2, hc2, _, hd2⟩, _⟩ := I.list k
  rw [ho] at ho2
  cases ho2
  rw [hc] at hc2
  injection hc2 with e
  exact absurd e (by decide)
theorem insT_no {H : Hp} (I : Inv X pins σ H s) {a C dx : Addr} {fs : List (Str × V)} {xs : List V} (h : SqT X.K H a xs) (k : H a = some (.ins C dx fs)) : False := by
  obtain ⟨its, r, ⟨o, ho, hc, n, hd⟩, _⟩ := I.tuple h
  obtain ⟨od, J⟩ := Inv.inst I k
  rw [J.at_] at ho
  cases ho
  cases hc
theorem insL_no {H : Hp} (I : Inv X pins σ H s) {a C dx : Addr} {fs : List (Str × V)} {xs : List V} (h : SqL X.K H a xs) (k : H a = some (.ins C dx fs)) : False := by
  obtain ⟨its, r, ⟨o, n, ho, hc, _, hd⟩, _⟩ := I.list h
  obtain ⟨od, J⟩ := Inv.inst I k
  rw [J.at_] at ho
  cases ho
  cases hc
mutual
theorem rep_inj (I : Inv X pins σ S.H s) (sa : Sta X.K S m) : ∀ (x : D) {y : D} {v : V}, solid x = true → solid y = true → Rep X.K S.i S.F x v → Rep X.K S.i S.F y v → x = y
  | .non, y, v, _, h, r, q => by cases r; cases q <;> first | rfl | simp [solid] at h
  | .bl b, y, v, _, h, r, q => by cases r; cases q <;> first | rfl | simp [solid] at h
  | .int b, y, v, _, h, r, q => by cases r; cases q <;> first | rfl | simp [solid] at h
  | .str b, y, v, _, h, r, q => by cases r; cases q <;> first | rfl | simp [solid] at h
  | .tup ds, y, v, g, h, r, q => by
    cases r with
    | tup h1 h2 =>
      cases q with
      | tup k1 k2 =>
        have e := sqT_inj I (SqT.ext' h1 sa.sub) (SqT.ext' k1 sa.sub)
        subst e
        rw [reps_inj I sa ds (by simpa [solid] using g) (by simpa [solid] using h) h2 k2]
      | lst k1 k2 => exact (sq_no I (SqT.ext' h1 sa.sub) (SqL.ext' k1 sa.sub)).elim
      | obj k1 k2 k3 => exact (insT_no I (SqT.ext' h1 sa.sub) (sa.sub _ _ k1)).elim
      | _ => simp [solid] at h
  | .lst ds, y, v, g, h, r, q => by
    cases r with
    | lst h1 h2 =>
      cases q with
      | lst k1 k2 =>
        have e := sqL_inj I (SqL.ext' h1 sa.sub) (SqL.ext' k1 sa.sub)
        subst e
        rw [reps_inj I sa ds (by simpa [solid] using g) (by simpa [solid] using h) h2 k2]
      | tup k1 k2 => exact (sq_no I (SqT.ext' k1 sa.sub) (SqL.ext' h1 sa.sub)).elim
      | obj k1 k2 k3 => exact (insL_no I (SqL.ext' h1 sa.sub) (sa.sub _ _ k1)).elim
      | _ => simp [solid] at h
  | .obj c ds, y, v, g, h, r, q => by
    cases r with
    | obj h1 h2 h3 =>
      cases q with
      | @obj c' ds' a' dx' vs' k1 k2 k3 =>
        rw [h1] at k1
        injection k1 with k1
        injection k1 with e1 e2 e3
        subst e3
        obtain ⟨a, ns⟩ := c
        obtain ⟨a', ns'⟩ := c'
        simp only at e1 h2 k2
        subst e1
        rw [← h2, ← k2, reps_inj I sa ds (by simpa [solid] using g) (by simpa [solid] using h) h3 k3]
      | tup k1 k2 => exact (insT_no I (SqT.ext' k1 sa.sub) (sa.sub _ _ h1)).elim
      | lst k1 k2 => exact (insL_no I (SqL.ext' k1 sa.sub) (sa.sub _ _ h1)).elim
      | _ => simp [solid] at h
  | .loc _, _, _, g, _, _, _ => by simp [solid] at g
  | .val _, _, _, g, _, _, _ => by simp [solid] at g
  | .xob _ _, _, _, g, _, _, _ => by simp [solid] at g
  | .lam _ _, _, _, g, _, _, _ => by simp [solid] at g
  | .clo _ _, _, _, g, _, _, _ => by simp [solid] at g
  | .dct _ _, _, _, g, _, _, _ => by simp [solid] at g
theorem reps_inj (I : Inv X pins σ S.H s) (sa : Sta X.K S m) : ∀ (xs : List D) {ys : List D} {vs : List V}, solids xs = true → solids ys = true → Reps X.K S.i S.F xs vs → Reps X.K S.i S.F ys vs → xs = ys
  | [], ys, vs, _, _, r, q => by cases r; cases q; rfl
  | x :: xs, ys, vs, g, h, r, q => by
    cases r with
    | cons h1 h2 =>
      cases q with
      | cons k1 k2 =>
        simp only [solids, Bool.and_eq_true] at g h
        rw [rep_inj I sa x g.1 h.1 h1 k1, reps_inj I sa xs g.2 h.2 h2 k2]
end
end
open Classical in
noncomputable def pureB (r : Res D) (m : Mu) : Option Bool := match r with
  | .ok (.bl b) m1 => if m1 = m then some b else none
  | _ => none
def eqXs (f : D → D → Option Bool) : List D → List D → Option Bool
  | x :: xs, y :: ys => match f x y with
    | some true => eqXs f xs ys
    | some false => some false
    | none => none
  | _, _ => some true
open Classical in
noncomputable def eqI (f : D → D → Option Bool) (x y : D) : Option Bool := if solid x = true ∧ solid y = true then (match f x y with
  | some b => if (x = y → b = true) then some b else none
  | none => none) else none
noncomputable def eqX (rows : List (Kl × DFn × List Tg)) (m : Mu) : Nat → D → D → Option Bool
  | 0, _, _ => none
  | n + 1, x, y => match insOf m x with
    | some (C, ns, _) => (match eqRow rows C ns, tagOf m y with
      | some (G, ts), some t => if t ∈ ts then pureB (G [x, y] m) m else none
      | _, _ => none)
    | none => match seqL m x, seqL m y with
      | some xs, some ys => if xs.length = ys.length then eqXs (eqI (eqX rows m n)) xs ys else some false
      | _, _ => match seqT x, seqT y with
        | some xs, some ys => (eqXs (eqI (eqX rows m n)) xs ys).map fun b => b && decide (xs.length = ys.length)
        | _, _ => match pyOf m x, pyOf m y with
          | some d, some e => if SeqAt.shaped d && SeqAt.shaped e then some (PyData.eqv d e) else none
          | _, _ => none
noncomputable def gEqX (neg : Bool) (rows : List (Kl × DFn × List Tg)) (n : Nat) : D2 := fun x y m => match eqX rows m n x y with
  | some b => .ok (.bl (neg ^^ b)) m
  | none => .stuck
section
variable {X : Cx} {k : Nat} {rows : List (Kl × DFn × List Tg)}
def At (X : Cx) (pins : List (Addr × Obj)) (σ : L2.St) (S : Wd) (m : Mu) (s : Shared) : Prop := ∃ T, Stp S T ∧ Sta X.K T m ∧ Inv X pins σ T.H s
theorem pureB_some {r : Res D} {m : Mu} {b : Bool} (h : pureB r m = some b) : r = .ok (.bl b) m := by
  unfold pureB at h
  split at h
  · rename_i b' m1
    split at h
    · rename_i e; cases h; rw [e]
    · cases h
  · cases h
theorem eqI_some {f : D → D → Option Bool} {x y : D} {b : Bool} (h : eqI f x y = some b) : solid x = true ∧ solid y = true ∧ f x y = some b ∧ (x = y → b = true) := by
  unfold eqI at h
  split at h
  · rename_i hs
    cases q : f x y with
    | none => rw [q] at h; cases h
    | some b' =>
      rw [q] at h
      dsimp only at h
      split at h
      · rename_i e; cases h; exact ⟨hs.1, hs.2, rfl, e⟩
      · cases h
  · cases h
def EqIt (X : Cx) (k : Nat) (f : Mu → D → D → Option Bool) : Prop := ∀ (A : Around) (pins : List (Addr × Obj)) (σ : L2.St) (S : Wd) (m : Mu) (x y : D) (vx vy : V) (u w : Value) (s : Shared) (b : Bool), Room k A → A.frames = X.A.frames → Sta X.K S m → Rep X.K S.i S.F x vx → Rep X.K S.i S.F y vy → Inv X pins σ S.H s → RelV vx u → RelV vy w →
  f m x y = some b → wpAny (model X.prog X.w) A (eqBool u w) (fun r s' => r = b ∧ At X pins σ S m s') X.xe s
def LpI (X : Cx) (pins : List (Addr × Obj)) (σ : L2.St) (S : Wd) (m : Mu) (f : D → D → Option Bool) (xs ys : List D) (b : Bool) (i : Nat) (s : Shared) : Prop := At X pins σ S m s ∧ eqXs f (xs.drop i) (ys.drop i) = some b
theorem lp_turn {f : Mu → D → D → Option Bool} (hf : EqIt X k f) {A : Around} (hr : Room k A.in1) (hA : A.frames = X.A.frames) {pins : List (Addr × Obj)} {σ : L2.St} {S T : Wd} {m : Mu} {xs ys : List D} {vs us : List V} {its its2 : List Value} {b : Bool} {s : Shared}
    (st : Stp S T) (sa : Sta X.K T m) (I : Inv X pins σ T.H s) (r : Reps X.K T.i T.F xs vs) (q : Reps X.K T.i T.F ys us) (rv : Vals vs its) (qv : Vals us its2)
    (i : Nat) (h1 : i < its.toArray.size) (h2 : i < its2.toArray.size) (he : eqXs (f m) (xs.drop i) (ys.drop i) = some b) :
    wpAny (model X.prog X.w) A.in1 (eqBool its.toArray[i] its2.toArray[i]) (fun r s' => if r then LpI X pins σ S m (f m) xs ys b (i + 1) s' else b = false ∧ At X pins σ S m s') X.xe s := by
  have g1 : i < its.length := by simpa using h1
  have g2 : i < its2.length := by simpa using h2
  have k1 : i < vs.length := by rw [rv.length]; exact g1
  have k2 : i < us.length := by rw [qv.length]; exact g2
  have j1 : i < xs.length := by rw [r.len]; exact k1
  have j2 : i < ys.length := by rw [q.len]; exact k2
  obtain ⟨u, hu, ru⟩ := rv.get (List.getElem?_eq_getElem k1)
  obtain ⟨w, hw, rw'⟩ := qv.get (List.getElem?_eq_getElem k2)
  obtain ⟨v1, e1, rx⟩ := r.get (List.getElem?_eq_getElem j1)
  obtain ⟨v2, e2, ry⟩ := q.get (List.getElem?_eq_getElem j2)
  rw [List.getElem?_eq_getElem k1] at e1
  rw [List.getElem?_eq_getElem k2] at e2
  cases e1
  cases e2
  rw [List.drop_eq_getElem_cons j1, List.drop_eq_getElem_cons j2] at he
  unfold eqXs at he
  have c1 : its.toArray[i] = u := by
    rw [List.getElem?_eq_getElem g1] at hu
    simpa using Option.some.inj hu
  have c2 : its2.toArray[i] = w := by
    rw [List.getElem?_eq_getElem g2] at hw
    simpa using Option.some.inj hw
  rw [c1, c2]
  cases hb : f m xs[i] ys[i] with
  | none => rw [hb] at he; cases he
  | some b' =>
    rw [hb] at he
    refine wpAny_mono (hf A.in1 pins σ T m _ _ _ _ u w s b' hr hA sa rx ry I ru rw' hb) (fun r s' z => ?_) fun _ _ x => x
    obtain ⟨rfl, U, st2, sa2, I2⟩ := z
    cases r with
    | true => exact ⟨⟨U, st.trans st2, sa2, I2⟩, he⟩
    | false => exact ⟨(Option.some.inj he).symm, U, st.trans st2, sa2, I2⟩
theorem eqXs_nil_l {f : D → D → Option Bool} {ys : List D} : eqXs f [] ys = some true := by unfold eqXs; rfl
theorem eqXs_nil_r {f : D → D → Option Bool} {xs : List D} : eqXs f xs [] = some true := by cases xs <;> (unfold eqXs; rfl)
theorem lp_end {f : D → D → Option Bool} {xs ys : List D} {b : Bool} {i : Nat} (h : min xs.length ys.length ≤ i) (he : eqXs f (xs.drop i) (ys.drop i) = some b) : b = true := by
  by_cases hx : xs.length ≤ i
  · rw [List.drop_of_length_le hx, eqXs_nil_l] at he; exact (Option.some.inj he).symm
  · rw [List.drop_of_length_le (by omega : ys.length ≤ i), eqXs_nil_r] at he; exact (Option.some.inj he).symm
theorem eqBool_refW {prog : Program} {w : World} {A : Around} {E : Value → Shared → Prop} {s : Shared} {l : Addr} {b : Value} {Q : Bool → Shared → Prop} (hne : Value.ref l ≠ b) (h : wpAny (model prog w) A (richCompare .Eq (.ref l) b) (fun v s' => ∃ r, v = .bool r ∧ Q r s') E s) : wpAny (model prog w) A (eqBool (.ref l) b) Q E s := by
  unfold eqBool
  refine wpAny_holding ?_
  refine wpAny_ite_split (fun hab => absurd (eq_of_beq hab) hne) (fun _ => ?_)
  refine wpAny_bind (wpAny_mono h (fun v s' hv => ?_) fun _ _ x => x)
  obtain ⟨r, rfl, q⟩ := hv
  exact wpAny_truthy_bool q
theorem rc_obj (hrows : ∀ r ∈ rows, EqOk X.prog X.w X.K X.mg X.base k r) {A : Around} (hr : Room k A) (hA : A.frames = X.A.frames) {pins : List (Addr × Obj)} {σ : L2.St} {S : Wd} {m : Mu} {x y : D} {vx vy : V} {u w : Value} {s : Shared} {b : Bool} (sa : Sta X.K S m) (rx : Rep X.K S.i S.F x vx) (ry : Rep X.K S.i S.F y vy) (I : Inv X pins σ S.H s) (hu : RelV vx u) (hw : RelV vy w)
    {C : Addr} {ns : List Str} {ds : List D} (ei : insOf m x = some (C, ns, ds)) {G : DFn} {ts : List Tg} {t : Tg} (eG : eqRow rows C ns = some (G, ts)) (eT : tagOf m y = some t) (ht : t ∈ ts) (h : G [x, y] m = .ok (.bl b) m) :
    ∃ a, u = .ref a ∧ wpAny (model X.prog X.w) A (richCompare .Eq u w) (fun r s' => r = .bool b ∧ At X pins σ S m s') X.xe s := by
  obtain ⟨c, ok, rfl, rfl⟩ := eqRow_ok (P := EqOk X.prog X.w X.K X.mg X.base k) hrows eG
  obtain ⟨a, dx, vs, rfl, h1, h2, h3⟩ := insOf_ok sa rx ei
  obtain ⟨f, fd, ps, dds, G0, hf1, hf2, hk, hf, hb, e⟩ := ok.mt.ex
  have e : G = padF ps.length dds G0 := e
  subst e
  obtain rfl : u = Value.ref a := hu
  refine ⟨a, rfl, ?_⟩
  obtain ⟨od1, J1⟩ := Inv.inst I h1
  obtain ⟨mm, F⟩ := I.fr
  refine PySem.W.cmp_K (op := .Eq) hr.units0 F I.ok.mod.kin J1 (tag_looks I sa ry hw eT) (ok.nf t ht) hf1 hf2 (thn (run_fnA (us := [.ref a, w]) (Q := fun v H => v = .bl b ∧ ∃ T, T.H = H ∧ Stp S T ∧ Sta X.K T m) hf hr hb hA I sa (.cons rx (.cons ry .nil)) (.cons rfl (.cons hw .nil)) ?_) fun v s1 hq => ?_)
  · rw [h]
    intro v T st sa1 rv
    cases rv
    exact ⟨rfl, T, rfl, st, sa1⟩
  · obtain ⟨y', H', I', r, rfl, T, rfl, st, sa1⟩ := hq
    cases r
    exact ⟨rfl, T, st, sa1, I'⟩
theorem at_refl {pins : List (Addr × Obj)} {σ : L2.St} {S : Wd} {m : Mu} {s : Shared} (sa : Sta X.K S m) (I : Inv X pins σ S.H s) : At X pins σ S m s := ⟨S, Stp.refl S, sa, I⟩
theorem rc_lists {f : Mu → D → D → Option Bool} (hf : EqIt X k f) {neg : Bool} {A : Around} (hr : Room (k + 1) A) (hA : A.frames = X.A.frames) {pins : List (Addr × Obj)} {σ : L2.St} {S : Wd} {m : Mu} {x y : D} {vx vy : V} {u w : Value} {s : Shared} {b : Bool} (sa : Sta X.K S m) (rx : Rep X.K S.i S.F x vx) (ry : Rep X.K S.i S.F y vy) (I : Inv X pins σ S.H s) (hu : RelV vx u) (hw : RelV vy w)
    {xs ys : List D} (ex : seqL m x = some xs) (ey : seqL m y = some ys) (h : (if xs.length = ys.length then eqXs (f m) xs ys else some false) = some b) :
    ∃ a c, u = .ref a ∧ w = .ref c ∧ wpAny (model X.prog X.w) A (richCompare (if neg then .NotEq else .Eq) u w) (fun r s' => r = .bool (neg ^^ b) ∧ At X pins σ S m s') X.xe s := by
  obtain ⟨a, vs, rfl, sx, rvs⟩ := seqL_ok sa rx ex
  obtain ⟨c, us, rfl, sy, rus⟩ := seqL_ok sa ry ey
  obtain rfl : u = Value.ref a := hu
  obtain rfl : w = Value.ref c := hw
  refine ⟨a, c, rfl, rfl, ?_⟩
  split at h
  · rename_i hl
    have LB : GQ.ListB X.prog X.w A X.xe a c xs.length (LpI X pins σ S m (f m) xs ys b) (fun s' => b = false ∧ At X pins σ S m s') := by
      rintro i s' ⟨⟨T, st, saT, IT⟩, he⟩
      obtain ⟨a', vs', e1, sx', rvs'⟩ := seqL_ok saT (rx.stp st) ex
      obtain ⟨c', us', e2, sy', rus'⟩ := seqL_ok saT (ry.stp st) ey
      cases e1
      cases e2
      obtain ⟨its, qv, ⟨⟨cl, dd, dt, sl⟩, n, ho, hc, hd, hdt⟩, _⟩ := IT.list sx'
      obtain ⟨its2, qu, ⟨⟨cl2, dd2, dt2, sl2⟩, n2, ho2, hc2, hd2, hdt2⟩, _⟩ := IT.list sy'
      simp only at hc hd hdt hc2 hd2 hdt2
      subst hc hdt hc2 hdt2
      have z1 : its.toArray.size = xs.length := by rw [List.size_toArray, ← qv.length, ← rvs'.len]
      have z2 : its2.toArray.size = xs.length := by rw [List.size_toArray, ← qu.length, ← rus'.len, hl]
      refine ⟨its.toArray, its2.toArray, n, n2, dd, dd2, sl, sl2, ho, ho2, z1, z2, fun h1 h2 => ?_⟩
      refine wpAny_mono (lp_turn hf hr.in1 hA st saT IT rvs' rus' qv qu i h1 h2 he) (fun r s2 z => ?_) fun _ _ x => x
      cases r with
      | true => exact z
      | false =>
        obtain ⟨rfl, U, st2, sa2, I2⟩ := (z : b = false ∧ At X pins σ S m s2)
        obtain ⟨a', vs2, e1, sx2, rvs2⟩ := seqL_ok sa2 (rx.stp st2) ex
        obtain ⟨c', us2, e2, sy2, rus2⟩ := seqL_ok sa2 (ry.stp st2) ey
        cases e1
        cases e2
        obtain ⟨its3, qv3, ⟨⟨cl, dd, dt, sl⟩, n, ho, hc, hd, hdt⟩, _⟩ := I2.list sx2
        obtain ⟨its4, qu4, ⟨⟨cl2, dd2, dt2, sl2⟩, n2, ho2, hc2, hd2, hdt2⟩, _⟩ := I2.list sy2
        simp only at hc hd hdt hc2 hd2 hdt2
        subst hc hdt hc2 hdt2
        exact ⟨⟨rfl, U, st2, sa2, I2⟩, its3.toArray, its4.toArray, n, n2, dd, dd2, sl, sl2, ho, ho2, by rw [List.size_toArray, ← qv3.length, ← rvs2.len], by rw [List.size_toArray, ← qu4.length, ← rus2.len, hl]⟩
    have h0 : LpI X pins σ S m (f m) xs ys b 0 s := ⟨at_refl sa I, by simpa using h⟩
    have fin : ∀ s', LpI X pins σ S m (f m) xs ys b xs.length s' → b = true ∧ At X pins σ S m s' := fun s' z => ⟨lp_end (by omega) z.2, z.1⟩
    cases neg with
    | false => exact GQ.rc_listB hr.units0 _ _ LB (fun s' z => by obtain ⟨rfl, q⟩ := fin s' z; exact ⟨rfl, q⟩) (fun s' z => by obtain ⟨rfl, q⟩ := z; exact ⟨rfl, q⟩) h0
    | true => exact GQ.rc_listNe hr.units0 _ _ LB (fun s' z => by obtain ⟨rfl, q⟩ := fin s' z; exact ⟨rfl, q⟩) (fun s' z => by obtain ⟨rfl, q⟩ := z; exact ⟨rfl, q⟩) h0
  · rename_i hl
    cases h
    obtain ⟨its, qv, ⟨⟨cl, dd, dt, sl⟩, n, ho, hc, hd, hdt⟩, _⟩ := I.list sx
    obtain ⟨its2, qu, ⟨⟨cl2, dd2, dt2, sl2⟩, n2, ho2, hc2, hd2, hdt2⟩, _⟩ := I.list sy
    simp only at hc hd hdt hc2 hd2 hdt2
    subst hc hdt hc2 hdt2
    have hsz : its.toArray.size ≠ its2.toArray.size := by rw [List.size_toArray, List.size_toArray, ← qv.length, ← rvs.len, ← qu.length, ← rus.len]; exact hl
    cases neg with
    | false => exact GQ.rc_listL hr.units0 ho ho2 hsz ⟨rfl, at_refl sa I⟩
    | true => exact GQ.rc_listLNe hr.units0 ho ho2 hsz ⟨rfl, at_refl sa I⟩
theorem rc_tups {f : Mu → D → D → Option Bool} (hf : EqIt X k f) {neg : Bool} {A : Around} (hr : Room (k + 1) A) (hA : A.frames = X.A.frames) {pins : List (Addr × Obj)} {σ : L2.St} {S : Wd} {m : Mu} {x y : D} {vx vy : V} {u w : Value} {s : Shared} {b : Bool} (sa : Sta X.K S m) (rx : Rep X.K S.i S.F x vx) (ry : Rep X.K S.i S.F y vy) (I : Inv X pins σ S.H s) (hu : RelV vx u) (hw : RelV vy w)
    {xs ys : List D} (ex : seqT x = some xs) (ey : seqT y = some ys) (h : (eqXs (f m) xs ys).map (fun b => b && decide (xs.length = ys.length)) = some b) :
    ∃ a c, u = .ref a ∧ w = .ref c ∧ wpAny (model X.prog X.w) A (richCompare (if neg then .NotEq else .Eq) u w) (fun r s' => r = .bool (neg ^^ b) ∧ At X pins σ S m s') X.xe s := by
  obtain ⟨a, vs, rfl, sx, rvs⟩ := seqT_ok sa rx ex
  obtain ⟨c, us, rfl, sy, rus⟩ := seqT_ok sa ry ey
  obtain rfl : u = Value.ref a := hu
  obtain rfl : w = Value.ref c := hw
  refine ⟨a, c, rfl, rfl, ?_⟩
  cases he : eqXs (f m) xs ys with
  | none => rw [he] at h; cases h
  | some b0 =>
    rw [he] at h
    have h : (b0 && decide (xs.length = ys.length)) = b := Option.some.inj h
    obtain ⟨its, qv, hT, _⟩ := I.tuple sx
    obtain ⟨its2, qu, hT2, _⟩ := I.tuple sy
    have z1 : its.toArray.size = xs.length := by rw [List.size_toArray, ← qv.length, ← rvs.len]
    have z2 : its2.toArray.size = ys.length := by rw [List.size_toArray, ← qu.length, ← rus.len]
    have turn : ∀ i (h1 : i < its.toArray.size) (h2 : i < its2.toArray.size) s', LpI X pins σ S m (f m) xs ys b0 i s' → wpAny (model X.prog X.w) A.in1 (eqBool its.toArray[i] its2.toArray[i]) (fun r s' => if r then LpI X pins σ S m (f m) xs ys b0 (i + 1) s' else b0 = false ∧ At X pins σ S m s') X.xe s' := by
      rintro i h1 h2 s' ⟨⟨T, st, saT, IT⟩, he'⟩
      exact lp_turn hf hr.in1 hA st saT IT (rvs.stp st) (rus.stp st) qv qu i h1 h2 he'
    have h0 : LpI X pins σ S m (f m) xs ys b0 0 s := ⟨at_refl sa I, by simpa using he⟩
    have fin : ∀ s', LpI X pins σ S m (f m) xs ys b0 (min its.toArray.size its2.toArray.size) s' → b0 = true ∧ At X pins σ S m s' := fun s' z => ⟨lp_end (by omega) z.2, z.1⟩
    have hsz : (its.toArray.size == its2.toArray.size) = decide (xs.length = ys.length) := by rw [z1, z2]; rfl
    have hszn : (its.toArray.size != its2.toArray.size) = !decide (xs.length = ys.length) := by rw [z1, z2]; rfl
    cases neg with
    | false => exact GQ.rc_tupB hr.units0 _ (fun s' => b0 = false ∧ At X pins σ S m s') hT hT2 turn (fun s' z => by obtain ⟨rfl, q⟩ := fin s' z; exact ⟨by rw [hsz, ← h]; simp, q⟩) (fun s' z => by obtain ⟨rfl, q⟩ := z; exact ⟨by rw [← h]; simp, q⟩) h0
    | true => exact GQ.rc_tupNe hr.units0 _ (fun s' => b0 = false ∧ At X pins σ S m s') hT hT2 turn (fun s' z => by obtain ⟨rfl, q⟩ := fin s' z; exact ⟨by rw [hszn, ← h]; simp, q⟩) (fun s' z => by obtain ⟨rfl, q⟩ := z; exact ⟨by rw [← h]; simp, q⟩) h0
theorem eqIt_X (hrows : ∀ r ∈ rows, EqOk X.prog X.w X.K X.mg X.base k r) : ∀ n : Nat, EqIt X (k + n) (fun m => eqI (eqX rows m n))
  | 0 => by
    intro A pins σ S m x y vx vy u w s b hr hA sa rx ry I hu hw h
    obtain ⟨_, _, h, _⟩ := eqI_some h
    unfold eqX at h; cases h
  | n + 1 => by
    have ih := eqIt_X hrows n
    intro A pins σ S m x y vx vy u w s b hr hA sa rx ry I hu hw h
    obtain ⟨s1, s2, h, hxy⟩ := eqI_some h
    have same : ∀ a, u = .ref a → w = .ref a → b = true := fun a e1 e2 => by
      subst e1; subst e2
      have := relV_inj hu hw
      subst this
      exact hxy (rep_inj I sa x s1 s2 rx ry)
    have done : ∀ a, u = .ref a → wpAny (model X.prog X.w) A (richCompare .Eq u w) (fun r s' => r = .bool b ∧ At X pins σ S m s') X.xe s → wpAny (model X.prog X.w) A (eqBool u w) (fun r s' => r = b ∧ At X pins σ S m s') X.xe s := fun a e hh => by
      subst e
      by_cases hab : Value.ref a = w
      · subst hab
        have := same a rfl rfl
        subst this
        exact SeqAt.EqAt.same (A := A) (s := s) (.ref a) X.prog X.w X.xe _ ⟨rfl, at_refl sa I⟩
      · exact eqBool_refW hab (wpAny_mono hh (fun r s' z => ⟨b, z.1, rfl, z.2⟩) fun _ _ x => x)
    unfold eqX at h
    split at h
    · rename_i C ns ds ei
      split at h
      · rename_i G ts t eG eT
        split at h
        · rename_i ht
          obtain ⟨a, e, q⟩ := rc_obj hrows (hr.mono (by omega)) hA sa rx ry I hu hw ei eG eT ht (pureB_some h)
          exact done a e q
        · cases h
      · cases h
    · split at h
      · rename_i xs ys ex ey
        obtain ⟨a, c, e1, e2, q⟩ := rc_lists (neg := false) ih hr hA sa rx ry I hu hw ex ey h
        exact done a e1 (wpAny_mono q (fun r s' z => ⟨by rw [z.1, Bool.false_xor], z.2⟩) fun _ _ x => x)
      · split at h
        · rename_i xs ys ex ey
          obtain ⟨a, c, e1, e2, q⟩ := rc_tups (neg := false) ih hr hA sa rx ry I hu hw ex ey h
          exact done a e1 (wpAny_mono q (fun r s' z => ⟨by rw [z.1, Bool.false_xor], z.2⟩) fun _ _ x => x)
        · split at h
          · rename_i d e e1 e2
            split at h
            · rename_i hs
              obtain ⟨h1, h2⟩ := Bool.and_eq_true_iff.mp hs
              cases h
              obtain ⟨as, r1⟩ := Dp.reads I d vx u (pyOf_ok sa rx e1) hu
              obtain ⟨bs, r2⟩ := Dp.reads I e vy w (pyOf_ok sa ry e2) hw
              exact SeqAt.eqAt_reads d e A s u w as bs r1 r2 (SeqAt.canLay_of_shaped h1) (SeqAt.canLay_of_shaped h2) (SeqAt.room_of_shaped h1 hr.units) X.prog X.w X.xe _ ⟨rfl, at_refl sa I⟩
            · cases h
          · cases h
theorem od_eqX (hrows : ∀ r ∈ rows, EqOk X.prog X.w X.K X.mg X.base k r) (n : Nat) (hr : Room (k + n) X.A) : OD X (compareOp .Eq) (gEqX false rows n) := by
  intro pins s σ S m x y vx vy u w Q sa rx ry I hu hw p
  unfold gEqX at p
  split at p
  · rename_i b hb
    have fin : wpAny (model X.prog X.w) X.A (richCompare .Eq u w) (fun r s' => r = .bool b ∧ At X pins σ S m s') X.xe s → wpAny (model X.prog X.w) X.A (compareOp .Eq u w) (EP X pins σ Q) X.xe s := fun z => by
      refine wpAny_mono z (fun r s' q => ?_) fun _ _ x => x
      obtain ⟨rfl, T, st, sa1, I1⟩ := q
      rw [Bool.false_xor] at p
      exact ⟨.bl b, T.H, I1, rfl, Post.ok p st sa1 (.bl b)⟩
    cases n with
    | zero => unfold eqX at hb; cases hb
    | succ n =>
      have ih := eqIt_X hrows n
      unfold eqX at hb
      split at hb
      · rename_i C ns ds ei
        split at hb
        · rename_i G ts t eG eT
          split at hb
          · rename_i ht
            obtain ⟨a, e, q⟩ := rc_obj hrows (hr.mono (by omega)) rfl sa rx ry I hu hw ei eG eT ht (pureB_some hb)
            exact fin q
          · cases hb
        · cases hb
      · split at hb
        · rename_i xs ys ex ey
          obtain ⟨a, c, e1, e2, q⟩ := rc_lists (neg := false) ih hr rfl sa rx ry I hu hw ex ey hb
          exact fin (wpAny_mono q (fun r s' z => ⟨by rw [z.1, Bool.false_xor], z.2⟩) fun _ _ x => x)
        · split at hb
          · rename_i xs ys ex ey
            obtain ⟨a, c, e1, e2, q⟩ := rc_tups (neg := false) ih hr rfl sa rx ry I hu hw ex ey hb
            exact fin (wpAny_mono q (fun r s' z => ⟨by rw [z.1, Bool.false_xor], z.2⟩) fun _ _ x => x)
          · split at hb
            · rename_i d e e1 e2
              split at hb
              · rename_i hs
                obtain ⟨h1, h2⟩ := Bool.and_eq_true_iff.mp hs
                cases hb
                obtain ⟨as, r1⟩ := Dp.reads I d vx u (pyOf_ok sa rx e1) hu
                obtain ⟨bs, r2⟩ := Dp.reads I e vy w (pyOf_ok sa ry e2) hw
                exact fin (SeqAt.compareEq_shaped r1 r2 h1 h2 hr.units ⟨rfl, at_refl sa I⟩)
              · cases hb
            · cases hb
  · exact p.elim
noncomputable def gNeX (rows : List (Kl × DFn × List Tg)) (n : Nat) : D2 := fun x y m => match insOf m x with
  | some _ => .stuck
  | none => gEqX true rows n x y m
theorem od_neX (hrows : ∀ r ∈ rows, EqOk X.prog X.w X.K X.mg X.base k r) (n : Nat) (hr : Room (k + n) X.A) : OD X (compareOp .NotEq) (gNeX rows n) := by
  intro pins s σ S m x y vx vy u w Q sa rx ry I hu hw p
  unfold gNeX at p
  split at p
  · exact p.elim
  rename_i hins
  unfold gEqX at p
  split at p
  · rename_i b hb
    have fin : wpAny (model X.prog X.w) X.A (richCompare .NotEq u w) (fun r s' => r = .bool (true ^^ b) ∧ At X pins σ S m s') X.xe s → wpAny (model X.prog X.w) X.A (compareOp .NotEq u w) (EP X pins σ Q) X.xe s := fun z => by
      refine wpAny_mono z (fun r s' q => ?_) fun _ _ x => x
      obtain ⟨rfl, T, st, sa1, I1⟩ := q
      exact ⟨.bl (true ^^ b), T.H, I1, rfl, Post.ok p st sa1 (.bl _)⟩
    cases n with
    | zero => unfold eqX at hb; cases hb
    | succ n =>
      have ih := eqIt_X hrows n
      unfold eqX at hb
      rw [hins] at hb
      dsimp only at hb
      split at hb
      · rename_i xs ys ex ey
        obtain ⟨a, c, e1, e2, q⟩ := rc_lists (neg := true) ih hr rfl sa rx ry I hu hw ex ey hb
        exact fin q
      · split at hb
        · rename_i xs ys ex ey
          obtain ⟨a, c, e1, e2, q⟩ := rc_tups (neg := true) ih hr rfl sa rx ry I hu hw ex ey hb
          exact fin q
        · split at hb
          · rename_i d e e1 e2
            split at hb
            · rename_i hs
              obtain ⟨h1, h2⟩ := Bool.and_eq_true_iff.mp hs
              cases hb
              obtain ⟨as, r1⟩ := Dp.reads I d vx u (pyOf_ok sa rx e1) hu
              obtain ⟨bs, r2⟩ := Dp.reads I e vy w (pyOf_ok sa ry e2) hw
              exact fin (SeqAt.compareNe_shaped r1 r2 h1 h2 hr.units ⟨by rw [Bool.true_xor], at_refl sa I⟩)
            · cases hb
          · cases hb
  · exact p.elim
end
end DL
namespace DL
open PySem PySem.Spec L2
variable [LamTab]
section
variable {rows : List (Kl × DFn × List Tg)} {m : Mu} {n : Nat}
theorem eqX_lst (xs ys : List D) : eqX rows m (n + 1) (.lst xs) (.lst ys) = if xs.length = ys.length then eqXs (eqI (eqX rows m n)) xs ys else some false := by unfold eqX; rfl
theorem eqX_tup (xs ys : List D) : eqX rows m (n + 1) (.tup xs) (.tup ys) = (eqXs (eqI (eqX rows m n)) xs ys).map fun b => b && decide (xs.length = ys.length) := by rw [eqX.eq_def]; rfl
theorem eqX_obj (c : Kl) (ds : List D) (y : D) : eqX rows m (n + 1) (.obj c ds) y = (match eqRow rows c.a c.ns, tagOf m y with
      | some (G, ts), some t => if t ∈ ts then pureB (G [.obj c ds, y] m) m else none
      | _, _ => none) := by rw [eqX.eq_def]; rfl
@[simp] theorem pureB_ok (b : Bool) (m : Mu) : pureB (.ok (.bl b) m) m = some b := by simp [pureB]
theorem gEqX_of {neg : Bool} {x y : D} {b : Bool} (h : eqX rows m n x y = some b) : gEqX neg rows n x y m = .ok (.bl (neg ^^ b)) m := by unfold gEqX; rw [h]
theorem gNeX_of {x y : D} {b : Bool} (hx : insOf m x = none) (h : eqX rows m n x y = some b) : gNeX rows n x y m = .ok (.bl (!b)) m := by unfold gNeX; rw [hx]; dsimp only; rw [gEqX_of h, Bool.true_xor]
end
end DL

namespace DL
open PySem PySem.Spec PyProof.Rows L2
variable [LamTab]
section
variable {X : Cx} {k : Nat}
def gTuple : DFn := fun ds m => match ds with
  | [d] => match seqL m d with
    | some es => .ok (.tup es) m
    | none => match d with
      | .tup es => .ok (.tup es) m
      | _ => .stuck
  | _ => .stuck
theorem oc_tuple : OC X (.type "tuple") gTuple := by
  intro pins s σ S m ds xs us Q sa r rv I p
  unfold gTuple at p
  split at p
  · rename_i d
    cases r with
    | cons r rr =>
      cases rr
      cases rv with
      | cons hu hr =>
        cases hr
        rename_i v u
        split at p
        · rename_i es e
          obtain ⟨a, ys, rfl, h1, h2⟩ := seqL_ok sa r e
          refine L2.rl_tuple pins s σ S.H _ u Q I hu (.inl ⟨a, ys, rfl, h1, fun l hl => ?_⟩)
          have st := Stp.new sa (o := .tup ys) hl
          exact p (.ref l) (S.new l (.tup ys)) st (sa.new hl) (.tup (.inl (.inl upd_same)) (h2.stp st))
        · split at p
          · rename_i es _
            obtain ⟨a, ys, rfl, h1, h2⟩ := seqT_ok sa r (ds := es) rfl
            exact L2.rl_tuple pins s σ S.H _ u Q I hu (.inr ⟨a, ys, rfl, h1, Post.ok p (Stp.refl S) sa r⟩)
          · exact p.elim
  · exact p.elim
end
theorem pda_c {X : Cx} {a : Expr} {es : List Expr} {ta : DE} {t : DA} (ha : PDE X a ta) (hr : PDA X es t) (hs : isStar a = false := by rfl) : PDA X (a :: es) (dCons ta t) := pda_cons ha hr (se_cons _ _ _ hs)
end DL

namespace DL
open PySem PySem.Spec PyProof.Rows L2
variable [LamTab]
theorem resB_assoc {α β γ : Type} (r : Res α) (f : α → Mu → Res β) (g : β → Mu → Res γ) : (r.bind f).bind g = r.bind fun a m => (f a m).bind g := by cases r <;> rfl
def dLc1 (n : Nat) (g : DG) (c : DT) (b : DE) (e : En) : List D → Mu → Res Unit
  | [], m => .ok () m
  | d :: ds, m => match g d e with
    | none => .stuck
    | some e1 => match c e1 m with
      | .ok true m1 => match b e1 m1 with
        | .ok x m2 => match m2[n]? with
          | some (.lst acc) => if acc.length < sizeLine then dLc1 n g c b e ds (m2.set n (.lst (acc ++ [x]))) else .stuck
          | _ => .stuck
        | _ => .stuck
      | .ok false m1 => dLc1 n g c b e ds m1
      | _ => .stuck
def dLc2 (n : Nat) (g : DG) (c : DT) (t1 : DA) (g1 : DG) (c1 : DT) (b : DE) (vs1 : List Nat) (e : En) : List D → Mu → Res Unit
  | [], m => .ok () m
  | d :: ds, m => match g d e with
    | none => .stuck
    | some e1 => match c e1 m with
      | .ok true m1 => match t1 e1 m1 with
        | .ok ds1 m2 => (dLc1 n g1 c1 b (wipeE e1 vs1) ds1 m2).bind fun _ m3 => dLc2 n g c t1 g1 c1 b vs1 e ds m3
        | _ => .stuck
      | .ok false m1 => dLc2 n g c t1 g1 c1 b vs1 e ds m1
      | _ => .stuck
def dComp2 (t : DA) (g : DG) (c : DT) (t1 : DA) (g1 : DG) (c1 : DT) (b : DE) (own vs1 : List Nat) : DE := fun e m =>
  (t e m).bind fun ds m1 => (dLc2 m1.length g c t1 g1 c1 b vs1 (wipeE e own) ds (m1 ++ [.lst []])).bind fun _ m2 => .ok (.loc m1.length) m2
@[simp ↓] theorem dComp2_ap (t : DA) (g : DG) (c : DT) (t1 : DA) (g1 : DG) (c1 : DT) (b : DE) (own vs1 : List Nat) (e : En) (m : Mu) : dComp2 t g c t1 g1 c1 b own vs1 e m =
  (t e m).bind fun ds m1 => (dLc2 m1.length g c t1 g1 c1 b vs1 (wipeE e own) ds (m1 ++ [.lst []])).bind fun _ m2 => .ok (.loc m1.length) m2 := rfl
abbrev bI (X : Cx) (scope : Scope) (tg iter : Expr) : TI := fun σ H R => ∀ s0 H0 C cl fp, WI (Bk X scope s0 H0 C cl fp) tg iter σ H R
section
variable {X : Cx} {elt tg iter tg1 iter1 : Expr} {ifs ifs1 : List Expr} {scope : Scope} {own : List (Str × Nat)} {vs1 : List Nat} {pos spos : Pos} {t t1 : DA} {g g1 : DG} {c c1 : DT} {b : DE} {sl sl1 : List Nat}
theorem lc2_go {σ : L2.St} {S : Wd} {r : En} {m : Mu} {Q : VK} (hi : PDI X tg iter t)
    (hg : ∀ s H C cl fp, PDG (Bk X scope s H C cl fp) tg g sl) (ht : ∀ s H C cl fp, PDTs (Bk X scope s H C cl fp) ifs c)
    (hi1 : ∀ s H C cl fp, PDI (Bk X scope s H C cl fp) tg1 iter1 t1)
    (hg1 : ∀ s H C cl fp, PDG (Bk X scope s H C cl fp) tg1 g1 sl1) (ht1 : ∀ s H C cl fp, PDTs (Bk X scope s H C cl fp) ifs1 c1)
    (he : ∀ s H C cl fp, PDE (Bk X scope s H C cl fp) elt b)
    (hsl : ∀ i ∈ sl, i ∈ own.map (·.2)) (hsl1 : ∀ i ∈ sl1, i ∈ vs1)
    (sa : Sta X.K S m) (re : RelE X.K S r σ) (p : PostD X.K S (dComp2 t g c t1 g1 c1 b (own.map (·.2)) vs1 r m) Q (fun c d H => Fly X c d σ H)) :
    tLc2 (WI X tg iter) (bG X scope tg) (bT X scope ifs) (bI X scope tg1 iter1) (bG X scope tg1) (bT X scope ifs1) (bE X scope elt) (own.map (·.2)) vs1 σ S.H Q := by
  refine hi S r m σ _ sa re ?_
  unfold dComp2 at p
  cases q : t r m with
  | stuck => rw [q] at p; exact p
  | exc C fs m1 => rw [q] at p; exact p
  | ok ds m1 =>
    rw [q] at p
    intro J T st sa1 hJ Dd hD
    have pT : PostD X.K T ((dLc2 m1.length g c t1 g1 c1 b vs1 (wipeE r (own.map (·.2))) ds (m1 ++ [.lst []])).bind fun _ m2 => .ok (.loc m1.length) m2) Q (fun c d H => Fly X c d σ H) := Post.step st p
    have reW : RelE X.K T (wipeE r (own.map (·.2))) (wipe σ (own.map (·.2))) := (re.stp st).wipe _
    have stN : Stp T (T.tok Dd (.lst [])) := Stp.tok sa1 hD
    have saN : Sta X.K (T.tok Dd (.lst [])) (m1 ++ [.lst []]) := Sta.tok sa1 hD ⟨[], upd_same, .nil⟩
    have iN : (T.tok Dd (.lst [])).i[m1.length]? = some Dd := by
      show (T.i ++ [Dd])[m1.length]? = some Dd
      rw [← sa1.len, List.getElem?_append_right (Nat.le_refl _), Nat.sub_self]; rfl
    generalize m1.length = n0 at *
    refine ⟨fun i n H' => n = ds.length - i ∧ i ≤ ds.length ∧ ∃ (U : Wd) (m' : Mu), U.H = H' ∧ Stp (T.tok Dd (.lst [])) U ∧ Sta X.K U m' ∧
        PostD X.K T ((dLc2 n0 g c t1 g1 c1 b vs1 (wipeE r (own.map (·.2))) (ds.drop i) m').bind fun _ m2 => .ok (.loc n0) m2) Q (fun c d H => Fly X c d σ H),
      ⟨ds.length, by simp, Nat.zero_le _, T.tok Dd (.lst []), _, rfl, Stp.refl _, saN, pT⟩, ?_⟩
    rintro i n H' ⟨rfl, hi', U, m', rfl, stU, saU, pU⟩
    have stTU := stN.trans stU
    by_cases hlt : i < ds.length
    · refine .inr ⟨((hJ U m' i stTU saU).1 _ (List.getElem?_eq_getElem hlt)).1, fun H2 => i + 1 ≤ ds.length ∧ ∃ (U : Wd) (m' : Mu), U.H = H2 ∧ Stp (T.tok Dd (.lst [])) U ∧ Sta X.K U m' ∧
        PostD X.K T ((dLc2 n0 g c t1 g1 c1 b vs1 (wipeE r (own.map (·.2))) (ds.drop (i + 1)) m').bind fun _ m2 => .ok (.loc n0) m2) Q (fun c d H => Fly X c d σ H),
        fun H2 h2 => ⟨ds.length - (i + 1), by omega, rfl, h2.1, h2.2⟩, fun x H2 hy => ?_⟩
      obtain ⟨Y, rfl, stY, saY, rdY⟩ := ((hJ U m' i stTU saU).1 _ (List.getElem?_eq_getElem hlt)).2 x H2 hy
      rw [List.drop_eq_getElem_cons hlt] at pU
      unfold dLc2 at pU
      have stN2 := stU.trans stY
      have stT := stN.trans stN2
      cases qg : g ds[i] (wipeE r (own.map (·.2))) with
      | none => rw [qg] at pU; exact (show False from pU).elim
      | some e1 =>
        rw [qg] at pU
        dsimp only at pU
        intro s0 H0 C0 cl0 fp0
        refine hg s0 H0 C0 cl0 fp0 Y (wipeE r (own.map (·.2))) m' (wipe σ (own.map (·.2))) ds[i] x e1 _ saY (reW.stp stT) rdY qg ?_
        intro σ1 re1 bs
        refine ⟨?_, ?_⟩
        · rw [bs _ hsl]
          exact wipe_wipe _ _
        intro s0 H0 C0 cl0 fp0
        cases qc : c e1 m' with
        | stuck => rw [qc] at pU; exact (show False from pU).elim
        | exc C fs m2 => rw [qc] at pU; exact (show False from pU).elim
        | ok k m2 =>
          rw [qc] at pU
          refine ht s0 H0 C0 cl0 fp0 Y e1 m' σ1 _ saY re1 ?_
          rw [qc]
          intro k' Z stZ saZ hk
          cases (show k = k' from hk)
          have stNZ := stN2.trans stZ
          cases k with
          | false => exact iteF ⟨hlt, Z, m2, rfl, stNZ, saZ, pU⟩
          | true =>
            refine iteT ?_
            intro s0 H0 C0 cl0 fp0
            dsimp only at pU
            cases qt : t1 e1 m2 with
            | stuck => rw [qt] at pU; exact (show False from pU).elim
            | exc C fs m3 => rw [qt] at pU; exact (show False from pU).elim
            | ok ds1 m3 =>
              rw [qt] at pU
              dsimp only at pU
              refine hi1 s0 H0 C0 cl0 fp0 Z e1 m2 σ1 _ saZ (re1.stp stZ) ?_
              rw [qt]
              intro J1 T1 st1 sa2 hJ1
              have stN1 := stNZ.trans st1
              have reV : RelE X.K T1 (wipeE e1 vs1) (wipe σ1 vs1) := ((re1.stp stZ).stp st1).wipe _
              rw [resB_assoc] at pU
              refine ⟨fun j k H' => k = ds1.length - j ∧ j ≤ ds1.length ∧ ∃ (U : Wd) (m' : Mu), U.H = H' ∧ Stp T1 U ∧ Sta X.K U m' ∧
                  PostD X.K T ((dLc1 n0 g1 c1 b (wipeE e1 vs1) (ds1.drop j) m').bind fun _ m4 => (dLc2 n0 g c t1 g1 c1 b vs1 (wipeE r (own.map (·.2))) (ds.drop (i + 1)) m4).bind fun _ m2 => .ok (.loc n0) m2) Q (fun c d H => Fly X c d σ H),
                ⟨ds1.length, by simp, Nat.zero_le _, T1, m3, rfl, Stp.refl T1, sa2, pU⟩, ?_⟩
              rintro j k H'' ⟨rfl, hj', V0, n', rfl, stV0, saV0, pV⟩
              by_cases hlt1 : j < ds1.length
              · refine .inr ⟨((hJ1 V0 n' j stV0 saV0).1 _ (List.getElem?_eq_getElem hlt1)).1, fun H2 => j + 1 ≤ ds1.length ∧ ∃ (U : Wd) (m' : Mu), U.H = H2 ∧ Stp T1 U ∧ Sta X.K U m' ∧
                  PostD X.K T ((dLc1 n0 g1 c1 b (wipeE e1 vs1) (ds1.drop (j + 1)) m').bind fun _ m4 => (dLc2 n0 g c t1 g1 c1 b vs1 (wipeE r (own.map (·.2))) (ds.drop (i + 1)) m4).bind fun _ m2 => .ok (.loc n0) m2) Q (fun c d H => Fly X c d σ H),
                  fun H2 h2 => ⟨ds1.length - (j + 1), by omega, rfl, h2.1, h2.2⟩, fun x1 H3 hy1 => ?_⟩
                obtain ⟨Y1, rfl, stY1, saY1, rdY1⟩ := ((hJ1 V0 n' j stV0 saV0).1 _ (List.getElem?_eq_getElem hlt1)).2 x1 H3 hy1
                rw [List.drop_eq_getElem_cons hlt1] at pV
                unfold dLc1 at pV
                have stTY := stV0.trans stY1
                cases qg1 : g1 ds1[j] (wipeE e1 vs1) with
                | none => rw [qg1] at pV; exact (show False from pV).elim
                | some e2 =>
                  rw [qg1] at pV
                  dsimp only at pV
                  intro s0 H0 C0 cl0 fp0
                  refine hg1 s0 H0 C0 cl0 fp0 Y1 (wipeE e1 vs1) n' (wipe σ1 vs1) ds1[j] x1 e2 _ saY1 (reV.stp stTY) rdY1 qg1 ?_
                  intro σ2 re2 bs2
                  refine ⟨?_, ?_⟩
                  · rw [bs2 _ hsl1]
                    exact wipe_wipe _ _
                  intro s0 H0 C0 cl0 fp0
                  cases qc1 : c1 e2 n' with
                  | stuck => rw [qc1] at pV; exact (show False from pV).elim
                  | exc C fs m2 => rw [qc1] at pV; exact (show False from pV).elim
                  | ok k1 n2 =>
                    rw [qc1] at pV
                    refine ht1 s0 H0 C0 cl0 fp0 Y1 e2 n' σ2 _ saY1 re2 ?_
                    rw [qc1]
                    intro k2 Z1 stZ1 saZ1 hk1
                    cases (show k1 = k2 from hk1)
                    cases k1 with
                    | false => exact iteF ⟨hlt1, Z1, n2, rfl, stTY.trans stZ1, saZ1, pV⟩
                    | true =>
                      refine iteT ?_
                      intro s0 H0 C0 cl0 fp0
                      dsimp only at pV
                      cases qb : b e2 n2 with
                      | stuck => rw [qb] at pV; exact (show False from pV).elim
                      | exc C fs m3 => rw [qb] at pV; exact (show False from pV).elim
                      | ok dx n3 =>
                        rw [qb] at pV
                        refine he s0 H0 C0 cl0 fp0 Z1 e2 n2 σ2 _ saZ1 (re2.stp stZ1) ?_
                        rw [qb]
                        intro vx V1 stV saV rx
                        dsimp only at pV
                        have stW := ((stTY.trans stZ1).trans stV)
                        have iV : V1.i[n0]? = some Dd := pre_get (stN1.trans stW).pre iN
                        split at pV
                        · rename_i acc hacc
                          obtain ⟨av, w1, w2⟩ := saV.ok n0 Dd _ iV hacc
                          split at pV
                          · rename_i hlen
                            obtain ⟨sp, ss⟩ := saV.put (o := .lst (av ++ [vx])) iV (q := .lst (acc ++ [dx])) ⟨av ++ [vx], upd_same, w2.append (.cons rx .nil)⟩
                            exact ⟨av, w1, by rw [← w2.len]; exact hlen, hlt1, V1.put Dd (.lst (av ++ [vx])), _, rfl, stW.trans sp, ss, pV⟩
                          · exact (show False from pV).elim
                        · exact (show False from pV).elim
              · have ej : j = ds1.length := by omega
                subst ej
                rw [List.drop_length] at pV
                exact .inl ⟨(hJ1 V0 n' _ stV0 saV0).2 (Nat.le_refl _), hlt, V0, n', rfl, stN1.trans stV0, saV0, pV⟩
    · have e : i = ds.length := by omega
      subst e
      rw [List.drop_length] at pU
      refine .inl ⟨(hJ U m' _ stTU saU).2 (Nat.le_refl _), ?_⟩
      have pU : PostD X.K T (Res.ok (D.loc n0) m') Q (fun c d H => Fly X c d σ H) := pU
      exact pU (.ref Dd) U stTU saU (.loc (pre_get stU.pre iN))
abbrev mxBI (X : Cx) (scope : Scope) (tg iter : Expr) : ∀ s H C cl fp, PI (Bk X scope s H C cl fp) tg iter (bI X scope tg iter) := fun s H C cl fp => ⟨fun pins s1 σ H1 R I h => h s H C cl fp pins s1 I⟩
theorem pd_lc2 (hi : PDI X tg iter t) (hN : X.N.Nodup) (ok : BlkOk X.N X.env.scope scope own)
    (hg : ∀ s H C cl fp, PDG (Bk X scope s H C cl fp) tg g sl) (ht : ∀ s H C cl fp, PDTs (Bk X scope s H C cl fp) ifs c)
    (hi1 : ∀ s H C cl fp, PDI (Bk X scope s H C cl fp) tg1 iter1 t1)
    (hg1 : ∀ s H C cl fp, PDG (Bk X scope s H C cl fp) tg1 g1 sl1) (ht1 : ∀ s H C cl fp, PDTs (Bk X scope s H C cl fp) ifs1 c1)
    (he : ∀ s H C cl fp, PDE (Bk X scope s H C cl fp) elt b)
    (hc : X.calm = true) (hv : ∀ i ∈ vs1, i ∈ own.map (·.2) := by decide) (hsl : ∀ i ∈ sl, i ∈ own.map (·.2) := by decide) (hsl1 : ∀ i ∈ sl1, i ∈ vs1 := by decide)
    (hs : ∀ x, foldedSetIterable iter X.env x = pure x := by intro _; rfl) (hs1 : ∀ env x, foldedSetIterable iter1 env x = pure x := by intro _ _; rfl) :
    PDE X (.ListComp elt [⟨tg, iter, ifs, 0⟩, ⟨tg1, iter1, ifs1, 0⟩] scope pos) (dComp2 t g c t1 g1 c1 b (own.map (·.2)) vs1) :=
  pd_of (pe_lc2 hc hN (mxI X tg iter) ok hv (mxBG X scope tg) (mxBT X scope ifs) (mxBI X scope tg1 iter1) (mxBG X scope tg1) (mxBT X scope ifs1) (mxBE X scope elt) hs hs1)
    fun S r m σ Q sa re p => lc2_go hi hg ht hi1 hg1 ht1 he hsl hsl1 sa re p
end
end DL

namespace DL
open PySem PySem.Spec PyProof.Rows L2
variable [LamTab]
section
variable {X : Cx} {a b c e o tg : Expr} {es : List Expr} {ta tb tc to te u : DE} {t : DA} {pos p apos : Pos} {k : Nat}
def orE (t u : DE) : DE := fun e m => match t e m with
  | .stuck => u e m
  | r => r
def orA (t u : DA) : DA := fun e m => match t e m with
  | .stuck => u e m
  | r => r
theorem pdi_orA {t u : DA} (h : PDI X tg a t) (h2 : PDI X tg a u) : PDI X tg a (orA t u) := by
  intro S r m σ Q sa re p
  unfold orA at p
  split at p
  · exact h2 S r m σ Q sa re p
  · exact h S r m σ Q sa re p
def orS (t u : DS) : DS := fun e m => match t e m with
  | .stuck => u e m
  | r => r
@[simp ↓] theorem orE_ap (t u : DE) (e : En) (m : Mu) : orE t u e m = match t e m with
  | .stuck => u e m
  | r => r := rfl
@[simp ↓] theorem orA_ap (t u : DA) (e : En) (m : Mu) : orA t u e m = match t e m with
  | .stuck => u e m
  | r => r := rfl
@[simp ↓] theorem orS_ap (t u : DS) (e : En) (m : Mu) : orS t u e m = match t e m with
  | .stuck => u e m
  | r => r := rfl
end
end DL

namespace DL
open PySem PySem.Spec PyProof.Rows L2
variable [LamTab]
section
variable {X : Cx} {a b c e o tg : Expr} {es : List Expr} {ta tb tc to te u : DE} {t : DA} {pos p apos cpos : Pos} {k : Nat}
theorem Reps.reverse {K : PySem.W.Frag} {ι : List Addr} {F : Hp} {ds : List D} {vs : List V} (r : Reps K ι F ds vs) : Reps K ι F ds.reverse vs.reverse := by
  match r with
  | .nil => exact .nil
  | .cons h r' => rw [List.reverse_cons, List.reverse_cons]; exact (Reps.reverse r').append (.cons h .nil)
def dRev (t : DE) : DE := fun e m => (t e m).bind fun d m1 => match seqL m1 d with
  | some ds => .ok (.lst ds.reverse) m1
  | none => .stuck
@[simp ↓] theorem dRev_ap (t : DE) (e : En) (m : Mu) : dRev t e m = (t e m).bind fun d m1 => match seqL m1 d with
  | some ds => .ok (.lst ds.reverse) m1
  | none => .stuck := rfl
def BmOk (K : PySem.W.Frag) (f : D → List D → Mu → Res D) (rr : V → List V → Hp → VK → Prop) : Prop :=
  ∀ (S : Wd) (m : Mu) (d : D) (ds : List D) (v : V) (vs : List V) (Q : VK) (W : XK), Sta K S m → Rep K S.i S.F d v → Reps K S.i S.F ds vs → PostD K S (f d ds m) Q W → rr v vs S.H Q
def dBmL (f : D → List D → Mu → Res D) (to : DE) (t : DA) : DE := fun e m => (to e m).bind fun o m1 => match seqL m1 o with
  | some _ => (t e m1).bind fun ds m2 => f o ds m2
  | none => .stuck
@[simp ↓] theorem dBmL_ap (f : D → List D → Mu → Res D) (to : DE) (t : DA) (e : En) (m : Mu) : dBmL f to t e m = (to e m).bind fun o m1 => match seqL m1 o with
  | some _ => (t e m1).bind fun ds m2 => f o ds m2
  | none => .stuck := rfl
theorem pd_bmL {f : D → List D → Mu → Res D} {rr : V → List V → Hp → VK → Prop} {name : Str} {id : String} (slot : Slot "list" name id) (hty : typeOf (.builtin id) = pure (.type "method_descriptor")) (hr : MtR X id rr) (hm : BmOk X.K f rr) (ho : PDE X o to) (ha : PDA X (e :: es) t)
    (hbase : attributeBase o name X.env (eval o X.env) = eval o X.env := by rfl)
    (hfew : ((backTo cpos (starEach (e :: es) X.env)).all (fun x => !x.1) && (backToKw cpos (keywordEach [] X.env)).all (fun x => x.1.isSome)
      && decide ((e :: es).length + ([] : List Keyword).length + (if ([] : List Keyword).isEmpty then 0 else 1) < 30)) = true := by rfl)
    (hline : (apos.endLine == cpos.line) = true := by rfl) (hs : starEach (e :: es) X.env = (false, eval e X.env) :: starEach es X.env := by exact se_cons _ _ _ rfl) (hplain : (backTo cpos (starEach es X.env)).any (·.1) = false := by rfl) :
    PDE X (.Call (.Attribute o name apos) (e :: es) [] cpos) (dBmL f to t) := by
  refine pd_of (pe_bm PySem.F.plainAttrs_list slot hty hr (mxE X o) (mxA X _) hbase hfew hline hs hplain) fun S r m σ Q sa re p => ?_
  refine ho S r m σ _ sa re (Post.bindI p fun od m1 v T st sa1 rd q => ?_)
  split at q
  · rename_i ds e1
    obtain ⟨ad, xs, rfl, h1, r1⟩ := seqL_ok sa1 rd e1
    refine ⟨.inl ⟨rfl, xs, h1⟩, ?_⟩
    refine ha T r m1 σ _ sa1 (re.stp st) (Post.bindI q fun ds m2 us U st2 sa2 rds q2 => ?_)
    exact hm U m2 od ds (.ref ad) us Q _ sa2 (rd.stp st2) rds q2
  · exact q.elim
def findV (y : V) : List V → Option Nat
  | [] => none
  | x :: xs => if eqV x y then some 0 else (findV y xs).map (· + 1)
theorem findV_ok {y : V} : ∀ {xs : List V} {j : Nat}, findV y xs = some j → (∃ z, xs[j]? = some z ∧ eqV z y = true) ∧ ∀ (i : Nat) (z : V), i < j → xs[i]? = some z → eqV z y = false
  | [], _, h => by cases h
  | x :: xs, j, h => by
    unfold findV at h
    split at h
    · rename_i hx
      cases h
      exact ⟨⟨x, rfl, hx⟩, fun i z hi => by omega⟩
    · rename_i hx
      cases q : findV y xs with
      | none => rw [q] at h; cases h
      | some k =>
        rw [q] at h
        cases h
        obtain ⟨h1, h2⟩ := findV_ok q
        refine ⟨h1, fun i z hi hz => ?_⟩
        cases i with
        | zero => simp at hz; subst hz; simpa using hx
        | succ i => exact h2 i z (Nat.lt_of_succ_lt_succ hi) (by simpa using hz)
def fIndex : D → List D → Mu → Res D := fun d ds m => match ds with
  | [y] => match toV y, (seqL m d).bind toVs with
    | some v, some vs => match findV v vs with
      | some j => .ok (.int j) m
      | none => .stuck
    | _, _ => .stuck
  | _ => .stuck
theorem ok_index {K : PySem.W.Frag} : BmOk K fIndex (rIndex K) := by
  intro S m d ds v vs Q W sa rd rds p
  unfold fIndex at p
  split at p
  · rename_i y
    obtain ⟨vy, rfl, ry⟩ := reps1 rds
    split at p
    · rename_i v1 vs1 e1 e2
      cases q : seqL m d with
      | none => rw [q] at e2; cases e2
      | some es =>
        rw [q] at e2
        obtain ⟨ad, xs, rfl, h1, r1⟩ := seqL_ok sa rd q
        obtain ⟨rfl, fl⟩ := toVs_ok r1 (show toVs es = some vs1 from e2)
        obtain ⟨rfl, fy⟩ := toV_ok ry e1
        split at p
        · rename_i j hj
          obtain ⟨⟨z, z1, z2⟩, z3⟩ := findV_ok hj
          exact ⟨ad, _, _, j, z, rfl, rfl, h1, fy, fl, z1, z2, z3, Post.ok p (Stp.refl S) sa (.int _)⟩
        · exact p.elim
    · exact p.elim
  · exact p.elim
theorem pd_index (ho : PDE X o to) (ha : PDA X [e] t) (hbase : attributeBase o "index" X.env (eval o X.env) = eval o X.env := by rfl)
    (hfew : ((backTo cpos (starEach [e] X.env)).all (fun x => !x.1) && (backToKw cpos (keywordEach [] X.env)).all (fun x => x.1.isSome)
      && decide ([e].length + ([] : List Keyword).length + (if ([] : List Keyword).isEmpty then 0 else 1) < 30)) = true := by rfl)
    (hline : (apos.endLine == cpos.line) = true := by rfl) (hs : starEach [e] X.env = (false, eval e X.env) :: starEach [] X.env := by rfl) (hplain : (backTo cpos (starEach [] X.env)).any (·.1) = false := by rfl) :
    PDE X (.Call (.Attribute o "index" apos) [e] [] cpos) (dBmL fIndex to t) := pd_bmL PySem.F.slot_list_index PySem.F.type_list_index mt_index ok_index ho ha hbase hfew hline hs hplain
def dLstRep (t : DA) (tb : DE) : DE := fun e m => (dLst t e m).bind fun x m1 => (tb e m1).bind fun d m2 => match x, d with
  | .lst ds, .int k => if 0 ≤ k ∧ k < 2 ^ 62 ∧ ds.length * k.toNat ≤ sizeLine then .ok (.lst (List.replicate k.toNat ds).flatten) m2 else .stuck
  | _, _ => .stuck
@[simp ↓] theorem dLstRep_ap (t : DA) (tb : DE) (e : En) (m : Mu) : dLstRep t tb e m = (dLst t e m).bind fun x m1 => (tb e m1).bind fun d m2 => match x, d with
  | .lst ds, .int k => if 0 ≤ k ∧ k < 2 ^ 62 ∧ ds.length * k.toNat ≤ sizeLine then .ok (.lst (List.replicate k.toNat ds).flatten) m2 else .stuck
  | _, _ => .stuck := rfl
end
end DL

namespace DL
open PySem PySem.Spec PySem.Calls PyProof.Rows L2
variable [LamTab]
section
variable {prog : Program} {w : World} {A : Around} {E : Value → Shared → Prop} {s : Shared} {x : Addr}
end
section
variable {X : Cx} {a b c e o tg : Expr} {es : List Expr} {ta tb tc te to u : DE} {t : DA} {pos p apos cpos : Pos} {k : Nat} {x mn : Str} {G : DFn}
def dStar (te : DE) (t : DA) : DA := fun e m => (te e m).bind fun d m1 => match seqA m1 d with
  | some ds => (t e m1).bind fun es m2 => .ok (ds ++ es) m2
  | none => .stuck
@[simp ↓] theorem dStar_ap (te : DE) (t : DA) (e : En) (m : Mu) : dStar te t e m = (te e m).bind fun d m1 => match seqA m1 d with
  | some ds => (t e m1).bind fun es m2 => .ok (ds ++ es) m2
  | none => .stuck := rfl
end
def spS (K : PySem.W.Frag) (F : DFn) : Sp := fun vs H Q E => ∃ (S : Wd) (m : Mu) (ds : List D), S.H = H ∧ Sta K S m ∧ Reps K S.i S.F ds vs ∧ PostD K S (F ds m) Q E
section
variable (P : Program) (w : World) (K : PySem.W.Frag) (mg : Str → Option Value) (base : Heap)
abbrev FnS (k : Nat) (f : Addr) (G : DFn) : Prop := FnR P w K mg base (L2.CX P w) k f (spS K G)
end
section
variable {P : Program} {w : World} {K : PySem.W.Frag} {mg : Str → Option Value} {base : Heap}
end
section
variable {X : Cx} {a b c e o tg : Expr} {es : List Expr} {ta tb tc te to u : DE} {t : DA} {pos p p2 apos cpos : Pos} {k : Nat} {x mn : Str} {G : DFn} {f : Addr}
end
end DL

namespace DL
open PySem PySem.Spec PySem.Calls PyProof.Rows L2
variable [LamTab]
section
variable {P : Program} {w : World} {K : PySem.W.Frag} {mg : Str → Option Value} {base : Heap}
theorem FnD.star {k : Nat} {f : Addr} {fd : FuncData} {ps : List Str} {G : DFn} {dds : List D} (F : FnD P w K mg base k f fd ps G) (hb : Bd K fd ps dds) : FnS P w K mg base k f (padF ps.length dds G) := by
  obtain ⟨ds, dvs, hb, hd, hD⟩ := hb.ex
  refine (F.raw hb hd).imp fun vs H Q E h => ?_
  obtain ⟨S, m, das, rfl, sa, r, p⟩ := h
  unfold padF at p
  split at p
  · rename_i hl
    have r1 : Reps K S.i S.F (das ++ dds) (vs ++ dvs) := r.append (hD _ _)
    exact ⟨by rw [← r1.len]; exact hl, S, m, _, rfl, sa, r1, p⟩
  · exact p.elim
end
section
variable (P : Program) (w : World) (K : PySem.W.Frag) (mg : Str → Option Value) (base : Heap)
end
section
variable {X : Cx} {a b c e o tg : Expr} {es : List Expr} {ta tb tc te to u : DE} {t : DA} {pos p p2 apos cpos : Pos} {k : Nat} {x mn : Str} {G : DFn} {f C : Addr}
noncomputable def dMakeV (i : Nat) (C : Addr) (G : DFn) (t : DA) : DE := fun e m => match e[i]? with
  | some (some (.val (.ref a))) => if a = C then dMake C G t e m else .stuck
  | _ => .stuck
@[simp ↓] theorem dMakeV_ap (i : Nat) (C : Addr) (G : DFn) (t : DA) (e : En) (m : Mu) : dMakeV i C G t e m = match e[i]? with
  | some (some (.val (.ref a))) => if a = C then dMake C G t e m else .stuck
  | _ => .stuck := rfl
end
end DL

namespace DL
open PySem PySem.Spec PyProof.Rows L2
variable [LamTab]
abbrev GdL := List D × (Mu → Prop)
abbrev DAG := En → Mu → Res GdL
def PostIG (K : PySem.W.Frag) (S : Wd) (r : Res GdL) (R : It → Hp → Prop) (W : XK) : Prop := match r with
  | .stuck => False
  | .ok x m => ∀ J T, Stp S T → Sta K T m → ItOkG K x.2 T J x.1 → R J T.H
  | .exc C fs m => ∀ dd vs T, Stp S T → S.H dd = none → Sta K T m → T.H dd = some (.xd vs) → RepF K T.i T.F fs vs → W (.ref C) (some dd) T.H
theorem PostIG.bindI {α β : Type} {R' : Wd → α → β → Prop} {K : PySem.W.Frag} {S : Wd} {r : Res α} {f : α → Mu → Res GdL} {Q : It → Hp → Prop} {Q' : β → Hp → Prop} {W : XK} (h : PostIG K S (r.bind f) Q W)
    (g : ∀ a m v T, Stp S T → Sta K T m → R' T a v → PostIG K T (f a m) Q W → Q' v T.H) : Post R' K S r Q' W := by
  cases r with
  | stuck => exact h
  | ok a m =>
    intro v U s1 s2 s3
    refine g a m v U s1 s2 s3 ?_
    have h : PostIG K S (f a m) Q W := h
    cases q : f a m with
    | stuck => rw [q] at h; exact h
    | ok ds m1 => rw [q] at h; exact fun J T st => h J T (s1.trans st)
    | exc C fs m1 => rw [q] at h; exact fun dd vs T st hn => h dd vs T (s1.trans st) (s1.old dd hn)
  | exc C fs m => exact h
def liG (t : DA) : DAG := fun e m => (t e m).bind fun ds m1 => .ok (ds, fun _ => True) m1
@[simp ↓] theorem liG_ap (t : DA) (e : En) (m : Mu) : liG t e m = (t e m).bind fun ds m1 => .ok (ds, fun _ => True) m1 := rfl
def orG (t u : DAG) : DAG := fun e m => match t e m with
  | .stuck => u e m
  | r => r
@[simp ↓] theorem orG_ap (t u : DAG) (e : En) (m : Mu) : orG t u e m = match t e m with
  | .stuck => u e m
  | r => r := rfl
def seqGL (m : Mu) (d : D) : Option GdL := match d with
  | .lst ds => some (ds, fun _ => True)
  | .loc n => match m[n]? with
    | some (.lst ds) => some (ds, fun m => m[n]? = some (.lst ds))
    | _ => none
  | _ => none
@[simp] theorem seqGL_lst (m : Mu) (ds : List D) : seqGL m (.lst ds) = some (ds, fun _ => True) := rfl
@[simp] theorem seqGL_loc (m : Mu) (n : Nat) : seqGL m (.loc n) = match m[n]? with
  | some (.lst ds) => some (ds, fun m => m[n]? = some (.lst ds))
  | _ => none := rfl
def dItGL (ta : DE) : DAG := fun e m => (ta e m).bind fun d m1 => match seqGL m1 d with
  | some x => .ok x m1
  | none => .stuck
@[simp ↓] theorem dItGL_ap (ta : DE) (e : En) (m : Mu) : dItGL ta e m = (ta e m).bind fun d m1 => match seqGL m1 d with
  | some x => .ok x m1
  | none => .stuck := rfl
def dItGE (t : DA) : DAG := fun e m => (t e m).bind fun ds m1 => match ds with
  | [d] => match seqGL m1 d with
    | some x => .ok ((List.range x.1.length).zipWith (fun k d => .tup [.int (k : Nat), d]) x.1, x.2) m1
    | none => .stuck
  | _ => .stuck
@[simp ↓] theorem dItGE_ap (t : DA) (e : En) (m : Mu) : dItGE t e m = (t e m).bind fun ds m1 => match ds with
  | [d] => match seqGL m1 d with
    | some x => .ok ((List.range x.1.length).zipWith (fun k d => .tup [.int (k : Nat), d]) x.1, x.2) m1
    | none => .stuck
  | _ => .stuck := rfl
def dItGZ (t : DA) : DAG := fun e m => (t e m).bind fun ds m1 => match ds with
  | [a, b] => match seqGL m1 a, seqGL m1 b with
    | some x, some y => .ok (x.1.zipWith (fun x y => .tup [x, y]) y.1, fun m => x.2 m ∧ y.2 m) m1
    | _, _ => .stuck
  | _ => .stuck
@[simp ↓] theorem dItGZ_ap (t : DA) (e : En) (m : Mu) : dItGZ t e m = (t e m).bind fun ds m1 => match ds with
  | [a, b] => match seqGL m1 a, seqGL m1 b with
    | some x, some y => .ok (x.1.zipWith (fun x y => .tup [x, y]) y.1, fun m => x.2 m ∧ y.2 m) m1
    | _, _ => .stuck
  | _ => .stuck := rfl
section
variable {K : PySem.W.Frag} {T : Wd} {m : Mu} {d : D} {v : V} {x : GdL}
end
section
variable {X : Cx} {a b tg iter : Expr} {pos p tpos : Pos} {t u : DA} {ta : DE} {tG uG : DAG}
end
noncomputable def dCompX (fin : List D → Mu → Res D) (t : DAG) (g : DG) (c : DT) (b : DE) (own : List Nat) : DE := fun e m => (t e m).bind fun x m1 => (dCompG x.2 g c b (wipeE e own) x.1 m1 []).bind fin
@[simp ↓] theorem dCompX_ap (fin : List D → Mu → Res D) (t : DAG) (g : DG) (c : DT) (b : DE) (own : List Nat) (e : En) (m : Mu) : dCompX fin t g c b own e m = (t e m).bind fun x m1 => (dCompG x.2 g c b (wipeE e own) x.1 m1 []).bind fin := rfl
open Classical in
noncomputable def dLoopG (g : DG) (b : DS) (gd : Mu → Prop) : List D → En → Mu → RS
  | [], e, m => if gd m then .nx e m else .stuck
  | d :: ds, e, m => if gd m then (match g d e with
    | none => .stuck
    | some e1 => match b e1 m with
      | .nx e2 m2 => dLoopG g b gd ds e2 m2
      | .ct e2 m2 => dLoopG g b gd ds e2 m2
      | .bk e2 m2 => .nx e2 m2
      | .rt d m2 => .rt d m2
      | .exc C fs e2 m2 => .exc C fs e2 m2
      | .stuck => .stuck) else .stuck
noncomputable def dForX (t : DAG) (g : DG) (b : DS) : DS := fun e m => match t e m with
  | .ok x m1 => dLoopG g b x.2 x.1 e m1
  | .exc C fs m1 => .exc C fs e m1
  | .stuck => .stuck
@[simp ↓] theorem dForX_ap (t : DAG) (g : DG) (b : DS) (e : En) (m : Mu) : dForX t g b e m = match t e m with
  | .ok x m1 => dLoopG g b x.2 x.1 e m1
  | .exc C fs m1 => .exc C fs e m1
  | .stuck => .stuck := rfl
section
variable {X : Cx} {elt tg iter tg1 iter1 : Expr} {ifs ifs1 : List Expr} {scope : Scope} {own : List (Str × Nat)} {vs1 : List Nat} {pos spos : Pos} {t t1 : DAG} {g g1 : DG} {c c1 : DT} {b : DE} {sl sl1 : List Nat} {fin : List D → Mu → Res D}
end
open Classical in
noncomputable def dLc1G (n : Nat) (gd : Mu → Prop) (g : DG) (c : DT) (b : DE) (e : En) : List D → Mu → Res Unit
  | [], m => if gd m then .ok () m else .stuck
  | d :: ds, m => if gd m then (match g d e with
    | none => .stuck
    | some e1 => match c e1 m with
      | .ok true m1 => match b e1 m1 with
        | .ok x m2 => match m2[n]? with
          | some (.lst acc) => if acc.length < sizeLine then dLc1G n gd g c b e ds (m2.set n (.lst (acc ++ [x]))) else .stuck
          | _ => .stuck
        | _ => .stuck
      | .ok false m1 => dLc1G n gd g c b e ds m1
      | _ => .stuck) else .stuck
open Classical in
noncomputable def dLc2G (n : Nat) (gd : Mu → Prop) (g : DG) (c : DT) (t1 : DAG) (g1 : DG) (c1 : DT) (b : DE) (vs1 : List Nat) (e : En) : List D → Mu → Res Unit
  | [], m => if gd m then .ok () m else .stuck
  | d :: ds, m => if gd m then (match g d e with
    | none => .stuck
    | some e1 => match c e1 m with
      | .ok true m1 => match t1 e1 m1 with
        | .ok x1 m2 => (dLc1G n x1.2 g1 c1 b (wipeE e1 vs1) x1.1 m2).bind fun _ m3 => dLc2G n gd g c t1 g1 c1 b vs1 e ds m3
        | _ => .stuck
      | .ok false m1 => dLc2G n gd g c t1 g1 c1 b vs1 e ds m1
      | _ => .stuck) else .stuck
noncomputable def dComp2X (t : DAG) (g : DG) (c : DT) (t1 : DAG) (g1 : DG) (c1 : DT) (b : DE) (own vs1 : List Nat) : DE := fun e m =>
  (t e m).bind fun x m1 => (dLc2G m1.length x.2 g c t1 g1 c1 b vs1 (wipeE e own) x.1 (m1 ++ [.lst []])).bind fun _ m2 => .ok (.loc m1.length) m2
@[simp ↓] theorem dComp2X_ap (t : DAG) (g : DG) (c : DT) (t1 : DAG) (g1 : DG) (c1 : DT) (b : DE) (own vs1 : List Nat) (e : En) (m : Mu) : dComp2X t g c t1 g1 c1 b own vs1 e m =
  (t e m).bind fun x m1 => (dLc2G m1.length x.2 g c t1 g1 c1 b vs1 (wipeE e own) x.1 (m1 ++ [.lst []])).bind fun _ m2 => .ok (.loc m1.length) m2 := rfl
section
variable {X : Cx} {elt tg iter tg1 iter1 : Expr} {ifs ifs1 : List Expr} {scope : Scope} {own : List (Str × Nat)} {vs1 : List Nat} {pos spos : Pos} {t t1 : DAG} {g g1 : DG} {c c1 : DT} {b : DE} {sl sl1 : List Nat}
end
end DL

namespace DL
open PySem PySem.Spec PyProof.Rows L2
variable [LamTab]
def dAugI (i : Nat) (f : Int → Int → Int) (t : DE) : DS := fun e m => match e[i]? with
  | some (some (.int a)) => rsOf e (t e m) fun d m1 => match d with
    | .int b => .nx (e.set i (some (.int (f a b)))) m1
    | _ => .stuck
  | _ => .stuck
@[simp ↓] theorem dAugI_ap (i : Nat) (f : Int → Int → Int) (t : DE) (e : En) (m : Mu) : dAugI i f t e m = match e[i]? with
  | some (some (.int a)) => rsOf e (t e m) fun d m1 => match d with
    | .int b => .nx (e.set i (some (.int (f a b)))) m1
    | _ => .stuck
  | _ => .stuck := rfl
section
variable {X : Cx} {a : Expr} {ta : DE} {pos : Pos}
def dSlM (t : DE) (lo hi : DO) : DE := fun e m => (t e m).bind fun d m1 => (lo e m1).bind fun l m2 => (hi e m2).bind fun h m3 => match seqL m3 d with
  | some ds => .ok (.loc m3.length) (m3 ++ [.lst (cutD ds l h)])
  | none => .stuck
@[simp ↓] theorem dSlM_ap (t : DE) (lo hi : DO) (e : En) (m : Mu) : dSlM t lo hi e m = (t e m).bind fun d m1 => (lo e m1).bind fun l m2 => (hi e m2).bind fun h m3 => match seqL m3 d with
  | some ds => .ok (.loc m3.length) (m3 ++ [.lst (cutD ds l h)])
  | none => .stuck := rfl
end
end DL

namespace DL
open PySem PySem.Spec PyProof.Rows L2
variable [LamTab]
section
variable {X : Cx}
def dFunBK (g : List D → List D → Mu → Res D) (t u : DA) : DE := fun e m => (t e m).bind fun ds m1 => (u e m1).bind fun zs m2 => g ds zs m2
@[simp ↓] theorem dFunBK_ap (g : List D → List D → Mu → Res D) (t u : DA) (e : En) (m : Mu) : dFunBK g t u e m = (t e m).bind fun ds m1 => (u e m1).bind fun zs m2 => g ds zs m2 := rfl
def gMinDf : List D → List D → Mu → Res D := fun ds zs m => match ds, zs with
  | [d], [z] => match (seqL m d).bind toIs with
    | some [] => .ok z m
    | some (n :: ns) => .ok (.int (minI (n :: ns))) m
    | none => .stuck
  | _, _ => .stuck
@[simp] theorem gMinDf_ap (d z : D) (m : Mu) : gMinDf [d] [z] m = match (seqL m d).bind toIs with
    | some [] => .ok z m
    | some (n :: ns) => .ok (.int (minI (n :: ns))) m
    | none => .stuck := rfl
end
end DL

set_option maxHeartbeats 1000000
namespace DL
open PySem PySem.Spec PyProof.Rows L2 RZ
variable [LamTab]
def dItZ3 (t : DA) : DA := fun e m => (t e m).bind fun ds m1 => match ds with
  | [.lst xs, .lst ys, .lst zs] => .ok ((xs.zip (ys.zip zs)).map fun p => .tup [p.1, p.2.1, p.2.2]) m1
  | _ => .stuck
@[simp ↓] theorem dItZ3_ap (t : DA) (e : En) (m : Mu) : dItZ3 t e m = (t e m).bind fun ds m1 => match ds with
  | [.lst xs, .lst ys, .lst zs] => .ok ((xs.zip (ys.zip zs)).map fun p => .tup [p.1, p.2.1, p.2.2]) m1
  | _ => .stuck := rfl
section
variable {X : Cx} {a b c : Expr} {t : DA} {p pos tpos : Pos}
end
end DL

set_option maxHeartbeats 1000000
namespace DL
open PySem PySem.Spec PyProof.Rows L2 RZ
variable [LamTab]
section
variable {prog : Program} {w : World} {A : Around}
end
def dListZip (t : DA) : DE := fun e m => (t e m).bind fun ds m1 => match ds with
  | [.lst xs, .lst ys] => .ok (.lst ((xs.zip ys).map fun p => .tup [p.1, p.2])) m1
  | _ => .stuck
@[simp ↓] theorem dListZip_ap (t : DA) (e : En) (m : Mu) : dListZip t e m = (t e m).bind fun ds m1 => match ds with
  | [.lst xs, .lst ys] => .ok (.lst ((xs.zip ys).map fun p => .tup [p.1, p.2])) m1
  | _ => .stuck := rfl
section
variable {X : Cx} {a b : Expr} {t : DA} {p1 p2 pos1 pos2 : Pos}
end
end DL

set_option maxHeartbeats 1000000
namespace DL
open PySem PySem.Spec PyProof.Rows L2 RZ
variable [LamTab]
section
variable {prog : Program} {w : World} {A : Around} {E : Value → Shared → Prop} {s : Shared}
end
def dItET (t : DA) : DA := fun e m => (t e m).bind fun ds m1 => match ds with
  | [.tup es] => .ok ((List.range es.length).zipWith (fun k d => .tup [.int (k : Nat), d]) es) m1
  | _ => .stuck
@[simp ↓] theorem dItET_ap (t : DA) (e : En) (m : Mu) : dItET t e m = (t e m).bind fun ds m1 => match ds with
  | [.tup es] => .ok ((List.range es.length).zipWith (fun k d => .tup [.int (k : Nat), d]) es) m1
  | _ => .stuck := rfl
section
variable {X : Cx} {a : Expr} {t : DA} {p pos tpos : Pos}
end
end DL

set_option maxHeartbeats 2000000
namespace DL
open PySem PySem.Spec PyProof.Rows L2
variable [LamTab]
section
variable {M : Model} {A : Around} {E : Value → Shared → Prop} {sq : Shared} {Zp : Obj → Prop} {gr : Heap} {fe : Env} {oth : List Env} {Lf Lx ad : Addr}
theorem look_other {Qu : Unit → Shared → Prop} (stZ : PySem.HandSPX.Steady Zp) (fr : A.frames = some (fe :: oth)) (ff : fe.frame = some Lf) (ne : Lx ≠ Lf) (fl : PySem.HandSPX.HeldZ gr (fe :: oth) ad Zp Lx sq.heap)
    (hQ : ∀ hh, PySem.HandSPX.HeldZ gr (fe :: oth) ad Zp Lf hh → sq.heap.UpToSlots hh → Qu () { sq with heap := hh }) : wpAny M A (noteFrame (.ref ad) fe) Qu E sq := by
  obtain ⟨g1, g2, g3, oE, wE, tb, oTb, wT, e1, e2, e3, e4, e5, e6, e7, e8, e9⟩ := fl
  unfold noteFrame
  simp only [ff]
  refine wpAny_bind (wpAny_field e1 e3 e4 ?_)
  rw [if_pos (show (Value.ref tb != Value.none) = true by simp)]
  refine wpAny_bind (wpAny_field e7 e8 e9 ?_)
  rw [if_neg (show ¬ ((rawInt Lx == rawInt Lf) = true) by simp [rawInt]; exact fun z => ne (Int.ofNat.inj z))]
  refine wpAny_bind (wpAny_setField e7 e8 (Array.getElem?_eq_some_iff.mp e9).1 ?_)
  have oths : ∀ c, c ≠ tb → (sq.heap.update tb (Obj.mapFields (·.setIfInBounds 3 Value.none))).get? c = sq.heap.get? c := fun c hc => Heap.get?_update_other _ _ (Ne.symm hc)
  have noRec : ∀ c u, sq.heap.get? c = some u → (∀ vs, u.data ≠ .fields vs) → c ≠ tb := fun c u hb hn q => by
    rw [q, e7] at hb; injection hb with hb; subst hb; exact hn wT e8
  refine PySem.HandSPX.wpAny_entryZ stZ fr (g3.of_keeps fun c u hb hn => ⟨u, (oths c (noRec c u hb hn)).trans hb, rfl⟩) ff ((oths ad (Ne.symm e6)).trans e1)
    (fun c u hb => (oths c fun q => by rw [q, e5] at hb; cases hb).trans (g1 c u hb)) g2 e3 (Array.getElem?_eq_some_iff.mp e4).1 e2 fun hh hN => ?_
  obtain ⟨y1, y2, y3, y4⟩ := hN
  exact hQ hh ⟨y1, g2, y2, y3⟩ fun c u hb hn => y4 c u ((oths c (noRec c u hb hn)).trans hb) hn
end
section
variable {X : Cx}
abbrev Bx (X : Cx) (s : Shared) (H : Hp) (scope : Scope) (ce : Env) (fp : List Addr) (xe : Value → Shared → Prop) : Cx := { X.blk s H scope ce fp with xe := xe }
theorem inv_bx {s0 : Shared} {H0 : Hp} {scope : Scope} {ce : Env} {fp : List Addr} {xe : Value → Shared → Prop} {pins : List (Addr × Obj)} {σ : L2.St} {H : Hp} {s : Shared} (I : Inv (X.blk s0 H0 scope ce fp) pins σ H s) : Inv (Bx X s0 H0 scope ce fp xe) pins σ H s :=
  have k := I.ok
  ⟨⟨k.mod, k.kind, k.glob, k.blt, k.above, k.inj, k.has, k.cab, k.hd, k.frames, k.stk, k.exf, k.bs, k.bsz, k.noex, k.exfs, k.funs, k.frf⟩, I.os, I.bare, I.base, I.loc, I.cell, I.free, I.freeC, I.pin, I.hok, I.len⟩
theorem inv_ub {s0 : Shared} {H0 : Hp} {scope : Scope} {ce : Env} {fp : List Addr} {xe : Value → Shared → Prop} {pins : List (Addr × Obj)} {σ : L2.St} {H : Hp} {s : Shared} (I : Inv (Bx X s0 H0 scope ce fp xe) pins σ H s) : Inv (X.blk s0 H0 scope ce fp) pins σ H s :=
  have k := I.ok
  ⟨⟨k.mod, k.kind, k.glob, k.blt, k.above, k.inj, k.has, k.cab, k.hd, k.frames, k.stk, k.exf, k.bs, k.bsz, k.noex, k.exfs, k.funs, k.frf⟩, I.os, I.bare, I.base, I.loc, I.cell, I.free, I.freeC, I.pin, I.hok, I.len⟩
theorem fly_block {pins : List (Addr × Obj)} {σ : L2.St} {H3 : Hp} {s3 : Shared} {fp : List Addr} {scope : Scope} {ce : Env} (hs : X.stack = X.env :: X.outer) (hf : X.env.frame = some X.env.locals) (hcl : ce.frame = X.env.frame) (I3 : Inv X pins σ H3 s3)
    (f3 : ∀ b ∈ fp, FpOk X pins H3 b) (hL : s3.heap.objs.size ≤ ce.locals) {c : Value} {d : Option Addr} {σ' : L2.St} {H' : Hp} (fl : Fly X c d σ H') :
    Fly (Bx X s3 H3 scope ce fp (notedBy (model X.prog X.w) X.A ce (CompFails (model X.prog X.w) X.A X.xe ce))) c d σ' H' := by
  intro u s' xx
  obtain ⟨a, B, sI, pins', σ'', H'', cls, d', rfl, J, nb, up, sky, na, os, ag, z1, z2, z3, z4⟩ := xx
  subst z1 z2 z3 z4
  show wpAny _ _ (noteFrame (.ref a) ce) _ _ s'
  rw [noteFrame_env _ hcl]
  have hfr : X.A.frames = some (X.env :: X.outer) := by rw [I3.ok.frames, hs]
  obtain ⟨mC, hnC, _⟩ := J.loc
  have hnC : sI.heap.Ns ce.locals mC := hnC
  have nC : H'' ce.locals = none := J.free
  have J1 : Inv X pins σ H'' sI := I3.call' (ch := fp) J.os J.base J.hok J.bare fun b hb => ⟨(f3 b hb).2.2.2.1, (f3 b hb).2.1, (f3 b hb).2.2.2.2.1, (f3 b hb).2.2.2.2.2⟩
  have fC : FpOk X pins H'' ce.locals := I3.fpOk hL nC
  have J2 : Inv X pins σ H'' { sI with heap := PySem.W.hideAll sI.heap [ce.locals] } := J1.turned (t' := sI.toks) (fun b o hb e => PySem.W.hideAll_get _ e (by simpa using hb)) fC.1 fC.2.1 fC.2.2.2.1 fC.2.2.2.2.1 fC.2.2.2.2.2
  have neL : ce.locals ≠ X.env.locals := fC.2.1
  have fin : ∀ h1, PySem.HandSPX.HeldZ B (X.env :: X.outer) a (Zc cls d') X.env.locals h1 → s'.heap.UpToSlots h1 → CompFails (model X.prog X.w) X.A X.xe ce (.ref a) { s' with heap := h1 } := by
    intro h1 hh up1
    have hn1 : h1.Ns ce.locals mC := (up.trans up1).ns hnC
    refine ⟨mC, hn1, fun h2 m2 hn2 sb2 => ?_⟩
    obtain ⟨oC, es, ep, hoC, hdC, _⟩ := hn1
    obtain ⟨g1, g2, g3, oE, wE, tb, oTb, wT, e1, e2, e3, e4, e5, e6, e7, e8, e9⟩ := hh
    have naC : a ≠ ce.locals := fun z => by
      rw [z] at e1
      rw [e1] at hoC; cases hoC
      rw [e3] at hdC; cases hdC
    have ntC : tb ≠ ce.locals := fun z => by
      rw [z] at e7
      rw [e7] at hoC; cases hoC
      rw [e8] at hdC; cases hdC
    have notC : ∀ b, (PySem.W.hideAll B [ce.locals]).get? b ≠ none → b ≠ ce.locals := fun b hb z => hb (by rw [z]; exact PySem.W.hideAll_none _ (by simp))
    have small : ∀ b o, (PySem.W.hideAll B [ce.locals]).get? b = some o → B.get? b = some o := fun b o e => PySem.W.of_hideAll _ e
    have smN : ∀ b, B.get? b = none → (PySem.W.hideAll B [ce.locals]).get? b = none := fun b e => by
      cases q : (PySem.W.hideAll B [ce.locals]).get? b with
      | none => rfl
      | some o => rw [small b o q] at e; cases e
    have frB : ∀ b ∈ frs (X.env :: X.outer), B.get? b = none := fun b hb => by
      obtain ⟨en, he, q⟩ := List.mem_filterMap.mp hb
      exact (g3.mem (List.mem_filterMap.mpr ⟨en, he, q⟩)).1
    have g3' : h2.FunFrames (PySem.W.hideAll B [ce.locals]) (X.env :: X.outer) := funFrames_none (Heap.FunFrames.sameBut sb2 hn2 g3) fun b hb => smN b (frB b hb)
    have hh2 : PySem.HandSPX.HeldZ (PySem.W.hideAll B [ce.locals]) (X.env :: X.outer) a (Zc cls d') X.env.locals h2 := by
      refine ⟨fun b o e => ?_, smN a g2, g3', oE, wE, tb, oTb, wT, (sb2.2 a naC).trans e1, e2, e3, e4, smN tb e5, e6, (sb2.2 tb ntC).trans e7, e8, e9⟩
      exact (sb2.2 b (notC b (by rw [e]; simp))).trans (g1 b o (small b o e))
    unfold PySem.passOn
    refine wpAny_bind (wpAny_field ((sb2.2 a naC).trans e1) e3 e4 ?_)
    rw [if_neg (show ¬ ((Value.ref tb == Value.none) = true) by simp)]
    have go : wpAny (model X.prog X.w) X.A (setFlight (.ref a) ce.frame) (fun _ s4 => wpAny (model X.prog X.w) X.A (throw (.ref a) : Sem Value) (fun _ _ => False) X.xe s4) X.xe { s' with heap := h2 } := by
      rw [hcl, hf]
      refine PySem.HandSPX.setFlight_onZ hh2 fun h3 hh3 up3 => wpAny_throw ?_
      refine fl _ _ ⟨a, PySem.W.hideAll B [ce.locals], _, pins, σ, H'', cls, d', rfl, J2, fun b o e hb => ?_, fun b o e hn => ?_, .inr (.inr (by rw [hs]; exact hh3)), na, os, ag, rfl, rfl, rfl, rfl⟩
      · have hne : b ≠ ce.locals := fun z => by
          rw [z, PySem.W.hideAll_none _ (by simp)] at e; cases e
        exact PySem.W.hideAll_get _ (nb b o (PySem.W.of_hideAll _ e) hb) (by simpa using hne)
      · have hne : b ≠ ce.locals := fun z => by
          rw [z, PySem.W.hideAll_none _ (by simp)] at e; cases e
        obtain ⟨sl, q⟩ := (up.trans up1) b o (PySem.W.of_hideAll _ e) hn
        exact up3 b _ ((sb2.2 b hne).trans q) hn |>.imp fun sl q => q
    first
      | exact wpAny_bind (wpAny_pure (wpAny_bind go))
      | exact wpAny_bind go
  have sky : Sky B (X.env :: X.outer) a (Zc cls d') ce.locals s'.heap := by rw [← hs]; exact sky
  rcases sky with ⟨hB, hn, hl, oe, vs, he, hz, hd, h1⟩ | fl | hh
  · exact PySem.HandSPX.look_newZ Zc.steady hfr hl hf he hB hn hd h1 hz fin
  · exact PySem.HandSPX.looks_onZ Zc.steady hfr hf fl fin
  · exact look_other Zc.steady hfr hf neL hh fin
end
def dCompLE (g : DG) (c : DT) (b : DE) (e : En) : List D → Mu → List D → Res (List D)
  | [], m, acc => .ok acc m
  | d :: ds, m, acc => match g d e with
    | none => .stuck
    | some e1 => match c e1 m with
      | .ok true m1 => match b e1 m1 with
        | .ok x m2 => if acc.length < sizeLine then dCompLE g c b e ds m2 (acc ++ [x]) else .stuck
        | .exc C fs m2 => .exc C fs m2
        | .stuck => .stuck
      | .ok false m1 => dCompLE g c b e ds m1 acc
      | _ => .stuck
def dCompE (t : DA) (g : DG) (c : DT) (b : DE) (own : List Nat) : DE := fun e m => (t e m).bind fun ds m1 => (dCompLE g c b (wipeE e own) ds m1 []).bind fun xs m2 => .ok (.lst xs) m2
@[simp ↓] theorem dCompE_ap (t : DA) (g : DG) (c : DT) (b : DE) (own : List Nat) (e : En) (m : Mu) : dCompE t g c b own e m = (t e m).bind fun ds m1 => (dCompLE g c b (wipeE e own) ds m1 []).bind fun xs m2 => .ok (.lst xs) m2 := rfl
section
variable {X : Cx} {elt tg iter : Expr} {ifs : List Expr} {scope : Scope} {own : List (Str × Nat)} {pos spos : Pos} {t : DA} {g : DG} {c : DT} {b : DE} {sl : List Nat}
abbrev bEx (X : Cx) (scope : Scope) (elt : Expr) (σX : L2.St) : TE := fun σ H Q => ∀ s0 H0 C cl fp xe, (∀ c d σ' H', Fly X c d σX H' → Fly (Bx X s0 H0 scope (compEnvC scope cl C X.env) fp xe) c d σ' H') → WE (Bx X s0 H0 scope (compEnvC scope cl C X.env) fp xe) elt σ H Q
end
end DL

namespace DL
open PySem PySem.Spec PyProof.Rows L2
variable [LamTab]
section
variable {X : Cx} {tg : Expr}
end
def dItRA (t : DA) : DA := fun e m => (t e m).bind fun ds m1 => match ds with
  | [.int i, .int j] => .ok (rngD i (j - i).toNat) m1
  | _ => .stuck
@[simp ↓] theorem dItRA_ap (t : DA) (e : En) (m : Mu) : dItRA t e m = (t e m).bind fun ds m1 => match ds with
  | [.int i, .int j] => .ok (rngD i (j - i).toNat) m1
  | _ => .stuck := rfl
section
variable {X : Cx} {tg a b : Expr} {t : DA} {p pos : Pos}
end
end DL

set_option maxHeartbeats 1000000
namespace DL
open PySem PySem.Spec PyProof.Rows L2
open Sem (wp)
section
def isSusp : GenState → Bool
  | .suspended .. => true
  | _ => false
def deadS : GenState → GenState
  | .suspended _ l c p fs cl => .suspended (fun _ => .unsupported "") l c p fs cl
  | x => x
def retF : Frame → Bool
  | .ret .. => true
  | .gen .. => false
def okS : GenState → Prop
  | .suspended k _ _ _ fs _ => (∀ r, k r = .unsupported "") ∨ fs.all retF = true
  | _ => True
def backS (G0 : Array GenState) (i : Nat) (x : GenState) : GenState := match G0[i]? with
  | some y => if isSusp y = true then y else x
  | none => x
def backG (G0 G : Array GenState) : Array GenState := G.mapIdx (backS G0)
def back (G0 : Array GenState) (s : Shared) : Shared := { s with gens := backG G0 s.gens }
structure Lull (G0 : Array GenState) (s : Shared) : Prop where
  hold : ∀ (i : Nat) (y : GenState), G0[i]? = some y → isSusp y = true → s.gens[i]? = some (deadS y)
  ok : ∀ (i : Nat) (y : GenState), s.gens[i]? = some y → okS y
theorem backG_get (G0 G : Array GenState) (i : Nat) : (backG G0 G)[i]? = G[i]?.map (backS G0 i) := by
  unfold backG
  rw [Array.getElem?_mapIdx]
theorem backG_size (G0 G : Array GenState) : (backG G0 G).size = G.size := by unfold backG; simp
theorem backS_free {G0 : Array GenState} {i : Nat} {x : GenState} (h : ∀ y, G0[i]? = some y → isSusp y = false) : backS G0 i x = x := by
  unfold backS
  split
  · rename_i y e
    rw [h y e]; rfl
  · rfl
theorem deadS_susp {y : GenState} (h : isSusp y = true) : ∃ l c p fs cl, deadS y = .suspended (fun _ => .unsupported "") l c p fs cl := by
  cases y <;> first | exact ⟨_, _, _, _, _, rfl⟩ | cases h
variable {G0 : Array GenState}
theorem Lull.free {s : Shared} (L : Lull G0 s) {g : Nat} {x : GenState} (hg : s.gens[g]? = some x) (hx : ∀ l c p fs cl, x ≠ .suspended (fun _ => .unsupported "") l c p fs cl) : ∀ y, G0[g]? = some y → isSusp y = false := fun y e => by
  cases h : isSusp y with
  | false => rfl
  | true =>
    have := L.hold g y e h
    rw [hg] at this
    obtain ⟨l, c, p, fs, cl, e2⟩ := deadS_susp h
    rw [e2] at this
    exact absurd (Option.some.inj this) (hx l c p fs cl)
theorem Lull.push {s : Shared} (L : Lull G0 s) {c : Code} : Lull G0 { s with gens := s.gens.push (.fresh c) } ∧ back G0 { s with gens := s.gens.push (.fresh c) } = { back G0 s with gens := (back G0 s).gens.push (.fresh c) } := by
  have hf : ∀ y, G0[s.gens.size]? = some y → isSusp y = false := fun y e => by
    cases h : isSusp y with
    | false => rfl
    | true =>
      have := L.hold _ y e h
      rw [Array.getElem?_eq_none (Nat.le_refl _)] at this
      cases this
  refine ⟨⟨fun i y e h => ?_, fun i y e => ?_⟩, ?_⟩
  · have q := L.hold i y e h
    have hlt := (Array.getElem?_eq_some_iff.mp q).1
    show (s.gens.push (.fresh c))[i]? = _
    rw [Array.getElem?_push_lt hlt]
    rw [Array.getElem?_eq_getElem hlt] at q
    exact q
  · have e : (s.gens.push (.fresh c))[i]? = some y := e
    rw [Array.getElem?_push] at e
    split at e
    · cases e; trivial
    · exact L.ok i y e
  · have : backG G0 (s.gens.push (.fresh c)) = (backG G0 s.gens).push (.fresh c) := by
      apply Array.ext_getElem?
      intro i
      rw [backG_get, Array.getElem?_push, Array.getElem?_push, backG_get, backG_size]
      split
      · subst_vars; exact congrArg some (backS_free hf)
      · rfl
    show ({ s with gens := _ } : Shared) = _
    unfold back
    simp only [this]
theorem Lull.stay {s s2 : Shared} (L : Lull G0 s) (e : s2.gens = s.gens) : Lull G0 s2 := ⟨fun i y h1 h2 => by rw [e]; exact L.hold i y h1 h2, fun i y h1 => L.ok i y (by rw [← e]; exact h1)⟩
def Slp (s s' : Shared) : Prop := ∀ (i : Nat) (y : GenState), s.gens[i]? = some y → isSusp y = true → s'.gens[i]? = some y
theorem Slp.refl (s : Shared) : Slp s s := fun _ _ e _ => e
theorem Slp.trans {a b c : Shared} (h : Slp a b) (k : Slp b c) : Slp a c := fun i y e z => k i y (h i y e z) z
end
end DL

set_option maxHeartbeats 1000000
namespace DL
open PySem PySem.Spec PyProof.Rows L2
open Sem (wp)
section
variable {X : Cx}
end
end DL

set_option maxHeartbeats 1000000
namespace DL
open PySem PySem.Spec PyProof.Rows L2
open Sem (wp)
section
variable {prog : Program} {w : World} {A : Around} {R : GenEnd} {Y : Protocol} {n : Nat} {s₀ : Shared} {c : Code} {fs : List Frame} {s : Shared} {env : Env}
  {K : Flow → Sem PySem.Fin} {J : Value → Sem PySem.Fin} {gd : Bool → Bool} {lv : List Value → List Value}
variable {l L it : Addr} {xs : List V} {y : Str} {p1 p2 p3 p4 : Pos}
end
section
variable {M : Model}
end
section
variable {prog : Program} {w : World} {A : Around} {E : Value → Shared → Prop} {s : Shared}
end
section
variable {P : Program} {w : World} {K : PySem.W.Frag} {A0 : Around} {C ob a L l : Addr} {g : Nat} {y sf f : Str} {p1 p2 p3 p4 p5 ps pa : Pos} {env : Env} {xs : List V}
end
end DL

set_option maxHeartbeats 1000000
namespace DL
open PySem PySem.Spec PyProof.Rows L2
open Sem (wp)
section
variable {X : Cx} {tg o : Expr} {m x qual : Str} {C fa : Addr} {fd : FuncData} {params : Arguments} {scope : Scope} {ta : TE} {y sf f : Str} {p1 p2 p3 p4 p5 ps pa apos pos' : Pos}
end
variable [LamTab]
def dItW (c : Kl) (i : Nat) (t : DE) : DA := fun e m => (t e m).bind fun d m1 => match d with
  | .obj c' ds => if c' = c then match ds[i]? with
    | some (.lst es) => .ok es m1
    | _ => .stuck
    else .stuck
  | _ => .stuck
@[simp ↓] theorem dItW_ap (c : Kl) (i : Nat) (t : DE) (e : En) (m : Mu) : dItW c i t e m = (t e m).bind fun d m1 => match d with
  | .obj c' ds => if c' = c then match ds[i]? with
    | some (.lst es) => .ok es m1
    | _ => .stuck
    else .stuck
  | _ => .stuck := rfl
section
variable {X : Cx} {tg o : Expr} {mn f : Str} {c : Kl} {i : Nat} {to : DE} {apos pos : Pos}
end
section
variable {X : Cx}
variable {elt tg iter : Expr} {ifs : List Expr} {scope : Scope} {own : List (Str × Nat)} {pos spos : Pos} {t : DA} {g : DG} {c : DT} {b : DE} {sl : List Nat}
end
end DL

set_option maxHeartbeats 4000000
namespace DL
open PySem PySem.Spec PyProof.Rows L2
variable [LamTab]
def insB {α : Type} (lt : α → α → Bool) (x : α) : List α → List α
  | [] => [x]
  | y :: ys => if lt y x then y :: insB lt x ys else x :: y :: ys
def srtB {α : Type} (lt : α → α → Bool) : List α → List α
  | [] => []
  | x :: xs => insB lt x (srtB lt xs)
def ltI (x y : Int) : Bool := decide (x < y)
abbrev ltPP (x y : Int × Int) : Bool := SrtO.lexB x y
def sortI (xs : List Int) : List Int := srtB ltI xs
def sortP (xs : List (Int × Int)) : List (Int × Int) := srtB ltPP xs
section
variable {X : Cx}
def gSumL : DFn := fun ds m => match ds with
  | [d] => match (seqL m d).bind toIs with
    | some ns => .ok (.int ns.sum) m
    | _ => .stuck
  | _ => .stuck
@[simp] theorem gSumL_ap (d : D) (m : Mu) : gSumL [d] m = match (seqL m d).bind toIs with
    | some ns => .ok (.int ns.sum) m
    | _ => .stuck := rfl
def gSortI : DFn := fun ds m => match ds with
  | [d] => match (seqL m d).bind toIs with
    | some ns => .ok (.lst ((sortI ns).map .int)) m
    | _ => .stuck
  | _ => .stuck
@[simp] theorem gSortI_ap (d : D) (m : Mu) : gSortI [d] m = match (seqL m d).bind toIs with
    | some ns => .ok (.lst ((sortI ns).map .int)) m
    | _ => .stuck := rfl
def prD (p : Int × Int) : D := .tup [.int p.1, .int p.2]
def toPrs : List D → Option (List (Int × Int))
  | [] => some []
  | .tup [.int a, .int b] :: ds => match toPrs ds with
    | some ps => some ((a, b) :: ps)
    | none => none
  | _ => none
@[simp] theorem toPrs_map : ∀ ps : List (Int × Int), toPrs (ps.map prD) = some ps
  | [] => rfl
  | p :: ps => by
    show (match toPrs (ps.map prD) with | some ps => some ((p.1, p.2) :: ps) | none => none) = _
    rw [toPrs_map ps]
open Classical in
def gSortP : DFn := fun ds m => match ds with
  | [d] => match (seqL m d).bind toPrs with
    | some ns => .ok (.lst ((sortP ns).map prD)) m
    | _ => .stuck
  | _ => .stuck
@[simp] theorem gSortP_ap (d : D) (m : Mu) : gSortP [d] m = match (seqL m d).bind toPrs with
    | some ns => .ok (.lst ((sortP ns).map prD)) m
    | _ => .stuck := rfl
end
end DL

set_option maxHeartbeats 4000000
namespace L2
open PySem PySem.Spec PyProof.Rows
open PpSet (newSet_ok eval_SetComp codeAny_compStart_set compLoopS_any)
section
variable {X : Cx}
end
end L2
namespace DL
open PySem PySem.Spec PyProof.Rows L2
variable [LamTab]
def insU (x : Int) : List Int → List Int
  | [] => [x]
  | y :: ys => if y < x then y :: insU x ys else if x = y then y :: ys else x :: y :: ys
def setI : List Int → List Int
  | [] => []
  | x :: xs => insU x (setI xs)
section
variable {X : Cx}
variable {elt tg iter : Expr} {ifs : List Expr} {scope : Scope} {own : List (Str × Nat)} {pos p cpos : Pos} {t : DA} {g : DG} {c : DT} {b : DE} {sl : List Nat}
noncomputable def dCompI (g : DG) (c : DT) (b : DE) (e : En) : List D → Mu → List Int → Res (List Int)
  | [], m, acc => .ok acc m
  | d :: ds, m, acc => match g d e with
    | none => .stuck
    | some e1 => match c e1 m with
      | .ok true m1 => match b e1 m1 with
        | .ok (.int k) m2 => if acc.length < 4000 then dCompI g c b e ds m2 (acc ++ [k]) else .stuck
        | _ => .stuck
      | .ok false m1 => dCompI g c b e ds m1 acc
      | _ => .stuck
noncomputable def dSortSC (t : DA) (g : DG) (c : DT) (b : DE) (own : List Nat) : DE := fun e m => (t e m).bind fun ds m1 => (dCompI g c b (wipeE e own) ds m1 []).bind fun ks m2 => if (setI ks).length < 64 then .ok (.lst ((setI ks).map .int)) m2 else .stuck
@[simp ↓] theorem dSortSC_ap (t : DA) (g : DG) (c : DT) (b : DE) (own : List Nat) (e : En) (m : Mu) : dSortSC t g c b own e m = (t e m).bind fun ds m1 => (dCompI g c b (wipeE e own) ds m1 []).bind fun ks m2 => if (setI ks).length < 64 then .ok (.lst ((setI ks).map .int)) m2 else .stuck := rfl
end
end DL

namespace DL
open PySem PySem.Spec L2
variable [LamTab]
section
variable {rows : List (Kl × DFn × List Tg)} {m : Mu} {n : Nat}
theorem seqL_at {k : Nat} {ds : List D} (h : m[k]? = some (.lst ds)) : seqL m (.loc k) = some ds := by
  simp only [seqL, h]
end
end DL
namespace DL
open PySem PySem.Spec L2
variable [LamTab]
section
variable {m : Mu} {g : DG} {c : DT} {b : DE} {e : En}
theorem compL_of {α : Type} {F f : α → D} {p : α → Bool} : ∀ (xs : List α) (acc : List D), (∀ x ∈ xs, ∃ e1, g (F x) e = some e1 ∧ c e1 m = .ok (p x) m ∧ (p x = true → b e1 m = .ok (f x) m)) → acc.length + xs.length ≤ sizeLine →
    dCompL g c b e (xs.map F) m acc = .ok (acc ++ (xs.filter p).map f) m
  | [], acc, _, _ => by simp
  | x :: xs, acc, h, hl => by
    obtain ⟨e1, h1, h2, h3⟩ := h x (by simp)
    rw [List.map_cons]
    unfold dCompL
    rw [h1]
    simp only [h2]
    cases hp : p x with
    | true =>
      have ih := compL_of xs (acc ++ [f x]) (fun y hy => h y (by simp [hy])) (by simp at hl ⊢; omega)
      simp only [h3 hp]
      rw [if_pos (by simp at hl; omega), ih]
      simp [hp]
    | false =>
      have ih := compL_of xs acc (fun y hy => h y (by simp [hy])) (by simp at hl ⊢; omega)
      simp only []
      rw [ih]
      simp [hp]
end
end DL
namespace DL
variable [LamTab]
theorem dLoop_step {g : DG} {b : DS} {d : D} {ds : List D} {e e1 e2 : En} {m m2 : Mu} (h1 : g d e = some e1) (h2 : b e1 m = .nx e2 m2) : dLoop g b (d :: ds) e m = dLoop g b ds e2 m2 := by
  rw [dLoop.eq_def]
  simp only [h1, h2]
end DL
namespace DL
open PySem PySem.Spec L2
variable [LamTab]
theorem dNeg_of {C : Addr} {G : DFn} {t : DE} {e : En} {m m1 : Mu} {d : D} {ns : List Str} {ds : List D} (h : t e m = .ok d m1) (hi : insOf m1 d = some (C, ns, ds)) : dNeg C G t e m = G [d] m1 := by
  unfold dNeg
  rw [h]
  cases d with
  | int i => cases hi
  | _ => simp only [Res.bind_ok, hi, if_true]
end DL

namespace DL
open PySem PySem.Spec PyProof.Rows L2
variable [LamTab]
theorem DefK.funD {K : PySem.W.Frag} {d : DefK} (e : fnK K (d.ad.at_ K) = d.seen) (c : d.okB K = true) : ∃ fd, FunD K d.name d.qual d.params d.body d.scope (d.dflK K) d.kws (d.ad.at_ K) fd := by
  obtain ⟨kp, c1⟩ := He.ba c
  unfold fnK at e
  cases q : K.lookup (d.ad.at_ K) with
  | none => rw [q] at c1; cases c1
  | some o =>
    obtain ⟨oc, od, dt, osl⟩ := o
    rw [q] at c1 e
    cases dt with
    | func g =>
      obtain ⟨m1, m2, m3, m4, m5, m6, m7, m8, m9, m10, m11, m12, m13, m14, m15⟩ := g
      have z : (some (m1, m2, m3, m4, m5, m6, m7, m15) : FnK) = some (d.name, d.qual, d.params, .stmts d.body, d.scope, mainGlobals, [], builtinsNs) := e
      simp only [Option.some.injEq, Prod.mk.injEq] at z
      obtain ⟨a1, a2, a3, a4, a5, a6, a7, a8⟩ := z
      subst a1 a2 a3 a4 a5 a6 a7 a8
      obtain ⟨k1, k2⟩ := He.ba (show (PySem.W.codeIn K m13 d.qual && (He.dflB K m8 (d.dflK K) && He.kwdB K m9 d.kws)) = true from c1)
      obtain ⟨k2, k3⟩ := He.ba k2
      exact ⟨_, ⟨oc, od, m8, m9, m10, m11, m12, m13, m14, osl, rfl, q, k1, He.dflB_ok k2, He.kwdB_ok k3⟩, kp⟩
    | _ => cases c1
section
variable {fs : List (PySem.W.Frag → Bool)} {ds : List DefK} {K : PySem.W.Frag}
theorem SaysK.fact (c : SaysK fs ds K) (i : Nat) {f : PySem.W.Frag → Bool} (h : fs[i]? = some f := by rfl) : f K = true :=
  List.all_eq_true.mp (He.ba (show ((fs.all fun f => f K) && ds.all fun d => d.okB K) = true from congrArg Prod.fst c)).1 f (List.mem_of_getElem? h)
theorem SaysK.df (c : SaysK fs ds K) (i : Nat) {d : DefK} (h : ds[i]? = some d := by rfl) : ∃ fd, FunD K d.name d.qual d.params d.body d.scope (d.dflK K) d.kws (d.ad.at_ K) fd := by
  have c2 := (He.ba (show ((fs.all fun f => f K) && ds.all fun d => d.okB K) = true from congrArg Prod.fst c)).2
  have e : (ds.map fun d => fnK K (d.ad.at_ K))[i]? = (ds.map DefK.seen)[i]? := congrArg (fun z : AlK => z.2[i]?) c
  rw [List.getElem?_map, List.getElem?_map, h] at e
  exact DefK.funD (Option.some.inj e) (List.all_eq_true.mp c2 d (List.mem_of_getElem? h))
end
theorem walk_ofK {l : PySem.W.OpenLaw} {n k : Nat} {q : Program} {loose : List Str} {XP : (Str → Option Value) → Heap → Prop} {YP : World → Heap → Prop} {d : DefRec} {x : Str}
    (hn : l.most = some n) (hn2 : n ≤ sizeLine) (hdf : d.params.defaults = []) (hr : Room k callerA)
    (F : ∀ (w : World) (mg : Str → Option Value) (fa : Addr) (h : Heap), YP w h → h.Ns mainGlobals mg → mg d.name = some (.ref fa) →
      ∃ (K : PySem.W.Frag) (fd : FuncData) (sp : Sp), K.In h ∧ (∀ (s : Shared) (u : Value), BindsTo s fd ⟨[u], []⟩ [(x, u)]) ∧
        (∀ (H : Hp) (a : Addr) (ns : List Int), ns.length ≤ n → SqL K H a (ns.map V.int) → sp [.ref a] H (fun v _ => v = .bl true) fun _ _ _ => False) ∧
        ∀ base : Heap, K.In base → base.Ns mainGlobals mg → FnOk l.prog w K mg base (L2.CX l.prog w) k fa fd [x] sp) :
    PySem.W.WalkO q loose XP YP l.row.toRowW d [] (fun f vs => PySem.call f vs) := by
  refine Att.attach_call hn hdf fun w s0 s1 mg mb fa o pm cd doc a vs ns G Y ho hd hcd hmg hobj hints hlen hg => ?_
  obtain ⟨K, fd, sp, KX, hb, hsp, hF⟩ := F w mg fa _ Y G.T.g hmg
  refine law_call KX G.T.g G.T.b G.T.builtins G.T.nolimit hg hobj hints (Nat.le_trans hlen hn2) hr hF hb (fun H _ hS => hsp H a ns hlen hS) fun H e s' z => nofly z
end DL

set_option maxHeartbeats 4000000
namespace L2
open PySem PySem.Spec PyProof.Rows
section
variable {P : Program} {w : World} {A : Around} {E : Value → Shared → Prop} {s : Shared}
set_option maxRecDepth 100000 in
set_option maxHeartbeats 3200000 in
end
end L2
namespace DL
open PySem PySem.Spec PyProof.Rows L2
variable [LamTab]
noncomputable def dSortSet (t : DE) : DE := fun e m => (t e m).bind fun d m1 => match (seqL m1 d).bind toIs with
  | some ns => if ns.length < 64 then .ok (.lst ((setI ns).map .int)) m1 else .stuck
  | _ => .stuck
@[simp ↓] theorem dSortSet_ap (t : DE) (e : En) (m : Mu) : dSortSet t e m = (t e m).bind fun d m1 => match (seqL m1 d).bind toIs with
  | some ns => if ns.length < 64 then .ok (.lst ((setI ns).map .int)) m1 else .stuck
  | _ => .stuck := rfl
section
variable {X : Cx}
end
end DL

set_option maxHeartbeats 4000000
namespace DL
open PySem PySem.Spec PyProof.Rows L2
variable [LamTab]
def fCount : D → List D → Mu → Res D := fun d ds m => match ds with
  | [.int k] => match (seqL m d).bind toIs with
    | some ns => .ok (.int (ns.count k : Nat)) m
    | none => .stuck
  | _ => .stuck
@[simp] theorem fCount_ap (d : D) (k : Int) (m : Mu) : fCount d [.int k] m = match (seqL m d).bind toIs with
    | some ns => .ok (.int (ns.count k : Nat)) m
    | none => .stuck := rfl
variable {X : Cx} {o e : Expr} {to : DE} {t : DA} {apos cpos : Pos}
end DL

set_option maxHeartbeats 4000000
namespace DL
open PySem PySem.Spec PyProof.Rows L2
open PySem.W (KPc.meets_of KPc.ite_no KPc.ite_yes KXf.cut_str KXf.ret_text KXf.ret_same)
def fieldS (right : Bool) (w : Nat) (x : Str) : Str := if w ≤ x.length then x else Builtin.Str.padded x (if right then w - x.length else 0) (if right then 0 else w - x.length) 32
def repS (n : Int) (x : Str) : Str := ⟨(List.replicate n.toNat x.cps).foldl (· ++ ·) #[]⟩
section
variable {P : Program} {w : World} {A : Around} {E : Value → Shared → Prop} {s : Shared}
set_option maxRecDepth 100000 in
end
variable [LamTab]
section
variable {X : Cx} {e sp : Expr} {t ts : DE} {pos : Pos}
def fldW (right : Bool) (wd : Nat) (spec : Str) (d d2 : D) (m : Mu) : Res D := match d, d2 with
  | .str x, .str y => if y = spec ∧ x.length + wd ≤ sizeLine then .ok (.str (fieldS right wd x)) m else .stuck
  | _, _ => .stuck
def dFmtW (right : Bool) (wd : Nat) (spec : Str) (t ts : DE) : DE := fun e m => (t e m).bind fun d m1 => (ts e m1).bind fun d2 m2 => fldW right wd spec d d2 m2
@[simp ↓] theorem dFmtW_ap (right : Bool) (wd : Nat) (spec : Str) (t ts : DE) (e : En) (m : Mu) : dFmtW right wd spec t ts e m = (t e m).bind fun d m1 => (ts e m1).bind fun d2 m2 => fldW right wd spec d d2 m2 := rfl
@[simp] theorem fldW_ap (right : Bool) (wd : Nat) (spec x y : Str) (m : Mu) : fldW right wd spec (.str x) (.str y) m = if y = spec ∧ x.length + wd ≤ sizeLine then .ok (.str (fieldS right wd x)) m else .stuck := rfl
def gRepS : D2 := fun x y m => match x with
  | .str a => match y with
    | .int n => if n < 1000 ∧ -1000 < n ∧ a.length < 1000 then .ok (.str (repS n a)) m else .stuck
    | _ => .stuck
  | _ => .stuck
@[simp] theorem gRepS_ap (a : Str) (n : Int) (m : Mu) : gRepS (.str a) (.int n) m = if n < 1000 ∧ -1000 < n ∧ a.length < 1000 then .ok (.str (repS n a)) m else .stuck := rfl
end
end DL

set_option maxHeartbeats 4000000
namespace DL
open PySem PySem.Spec PyProof.Rows L2
variable [LamTab]
section
variable {X : Cx} {o e : Expr} {to te : DE} {apos pos : Pos}
def gPartn (x y : D) (m : Mu) : Res D := match x, y with
  | .str a, .str b => if (b.length == 0) = false ∧ a.length ≤ sizeLine then .ok (.tup [.str (Txt.partition a b).1, .str (Txt.partition a b).2.1, .str (Txt.partition a b).2.2]) m else .stuck
  | _, _ => .stuck
def dPartn (to te : DE) : DE := fun e m => (to e m).bind fun x m1 => match x with
  | .str a => (te e m1).bind fun y m2 => gPartn (.str a) y m2
  | _ => .stuck
@[simp ↓] theorem dPartn_ap (to te : DE) (e : En) (m : Mu) : dPartn to te e m = (to e m).bind fun x m1 => match x with
  | .str a => (te e m1).bind fun y m2 => gPartn (.str a) y m2
  | _ => .stuck := rfl
@[simp] theorem gPartn_ap (a b : Str) (m : Mu) : gPartn (.str a) (.str b) m = if (b.length == 0) = false ∧ a.length ≤ sizeLine then .ok (.tup [.str (Txt.partition a b).1, .str (Txt.partition a b).2.1, .str (Txt.partition a b).2.2]) m else .stuck := rfl
def gSplit (x y : D) (m : Mu) : Res D := match x, y with
  | .str a, .str b => if (b.length == 0) = false ∧ a.length + 2 ≤ sizeLine then .ok (.lst ((Txt.split a b).map D.str)) m else .stuck
  | _, _ => .stuck
def dSplit (to te : DE) : DE := fun e m => (to e m).bind fun x m1 => match x with
  | .str a => (te e m1).bind fun y m2 => gSplit (.str a) y m2
  | _ => .stuck
@[simp ↓] theorem dSplit_ap (to te : DE) (e : En) (m : Mu) : dSplit to te e m = (to e m).bind fun x m1 => match x with
  | .str a => (te e m1).bind fun y m2 => gSplit (.str a) y m2
  | _ => .stuck := rfl
@[simp] theorem gSplit_ap (a b : Str) (m : Mu) : gSplit (.str a) (.str b) m = if (b.length == 0) = false ∧ a.length + 2 ≤ sizeLine then .ok (.lst ((Txt.split a b).map D.str)) m else .stuck := rfl
def gIntS : DFn := fun ds m => match ds with
  | [.str a] => match PySem.intText? a with
    | some n => if a.length ≤ 640 then .ok (.int n) m else .stuck
    | none => .stuck
  | _ => .stuck
@[simp] theorem gIntS_ap (a : Str) (m : Mu) : gIntS [.str a] m = match PySem.intText? a with
    | some n => if a.length ≤ 640 then .ok (.int n) m else .stuck
    | none => .stuck := rfl
end
section
variable (P : Program) (w : World) (K : PySem.W.Frag) (mg : Str → Option Value) (base : Heap)
end
section
variable {X : Cx} {k : Nat} {x mn : Str} {p2 apos cpos : Pos} {ks : List Str} {G : DFn} {kws : List Keyword} {tk : DA}
noncomputable def dFunC (n : Nat) (G : DFn) (tk : DA) : DE := fun e m => (tk e m).bind fun zs m1 => if zs.length = n then G zs m1 else .stuck
@[simp ↓] theorem dFunC_ap (n : Nat) (G : DFn) (tk : DA) (e : En) (m : Mu) : dFunC n G tk e m = (tk e m).bind fun zs m1 => if zs.length = n then G zs m1 else .stuck := rfl
end
end DL

set_option maxHeartbeats 4000000
namespace GQ
open PySem PySem.SeqAt PySem.Spec PyProof.Rows
open AutoSeq1 (wpAny_loadPart')
open MeetsSeq MeetsSeq2 MeetsSeq3 SeqRoads2
section
variable {prog : Program} {w : World} {A : Around} {R : Result → Shared → Prop}
end
section
variable {prog : Program} {w : World} {A : Around} {E : Value → Shared → Prop} {s : Shared}
end
end GQ
namespace DL
open PySem PySem.Spec PyProof.Rows L2
variable [LamTab]
section
variable {X : Cx} {k : Nat} {rows : List (Kl × DFn × List Tg)}
end
section
variable {prog : Program} {w : World} {A : Around} {E : Value → Shared → Prop} {s : Shared}
end
section
variable {X : Cx}
def gCatT : D2 := fun x y m => match x, y with
  | .tup xs, .tup ys => if xs ≠ [] ∧ xs.length + ys.length ≤ sizeLine then .ok (.tup (xs ++ ys)) m else .stuck
  | _, _ => .stuck
@[simp] theorem gCatT_ap (xs ys : List D) (m : Mu) : gCatT (.tup xs) (.tup ys) m = if xs ≠ [] ∧ xs.length + ys.length ≤ sizeLine then .ok (.tup (xs ++ ys)) m else .stuck := rfl
theorem od_catT : OD X (binaryOp .Add) gCatT := by
  refine od_of op_catT fun S m x y vx vy Q W sa rx ry p => ?_
  unfold gCatT at p
  split at p
  · rename_i xs ys
    split at p
    · rename_i hl
      cases rx with
      | @tup _ a us h1 r1 =>
        cases ry with
        | @tup _ b ws h2 r2 =>
          refine ⟨a, b, us, ws, rfl, rfl, SqT.ext' h1 sa.sub, SqT.ext' h2 sa.sub, fun z => hl.1 (by cases r1 with | nil => rfl | cons _ _ => cases z), by rw [← r1.len, ← r2.len]; exact hl.2, fun z => ?_, fun _ p' hp => ?_⟩
          · subst z
            cases r2
            rw [List.append_nil] at p
            exact p (.ref a) S (Stp.refl S) sa (.tup h1 r1)
          · have st1 := Stp.new sa (o := .tup (us ++ ws)) hp
            exact p (.ref p') (S.new p' (.tup (us ++ ws))) st1 (sa.new hp) (.tup (.inl (.inl upd_same)) ((r1.append r2).stp st1))
    · exact p.elim
  · exact p.elim
end
end DL

set_option maxHeartbeats 4000000
namespace L2
open PySem PySem.Spec PyProof.Rows
def dn (xs : List Str) : Nat → Nat
  | 0 => 0
  | n + 1 => if decide (xs.getD n Str.empty ∈ xs.take n) = true then dn xs n else dn xs n + 1
section
variable {P : Program} {w : World} {A : Around} {E : Value → Shared → Prop} {s : Shared}
set_option maxRecDepth 100000 in
set_option maxHeartbeats 3200000 in
end
end L2
namespace DL
open PySem PySem.Spec PyProof.Rows L2
variable [LamTab]
def dLenSet (t : DE) : DE := fun e m => (t e m).bind fun d m1 => match (seqL m1 d).bind toSs with
  | some xs => if xs.length < 64 then .ok (.int (dn xs xs.length : Nat)) m1 else .stuck
  | _ => .stuck
@[simp ↓] theorem dLenSet_ap (t : DE) (e : En) (m : Mu) : dLenSet t e m = (t e m).bind fun d m1 => match (seqL m1 d).bind toSs with
  | some xs => if xs.length < 64 then .ok (.int (dn xs xs.length : Nat)) m1 else .stuck
  | _ => .stuck := rfl
section
variable {X : Cx}
end
end DL

set_option maxHeartbeats 2000000
namespace DL
open PySem PySem.Spec PyProof.Rows L2
variable [LamTab]
section
variable {X : Cx}
theorem dc_raise {pins : List (Addr × Obj)} {s : Shared} {σ : L2.St} {H : Hp} {Q : VK} {kx vx tg iter : Expr} {ifs : List Expr} {scope : Scope} {own : List (Str × Nat)} {pos pos' : Pos} {wi : TI} {g : TG} {tt : TT} {tk te : TE} {Qf : Value → Shared → Prop}
    (hs0 : X.stack = X.env :: X.outer) (hf0 : X.env.frame = some X.env.locals) (calm : X.calm = true) (nd : X.N.Nodup) (I : Inv X pins σ H s) (hi : PI X tg iter wi) (ok : BlkOk X.N X.env.scope scope own)
    (hg : ∀ (s : Shared) (H : Hp) (C : Addr) (cl : List (Str × Addr)) (fp : List Addr), PG (Bk X scope s H C cl fp) tg g) (ht : ∀ (s : Shared) (H : Hp) (C : Addr) (cl : List (Str × Addr)) (fp : List Addr), PTs (Bk X scope s H C cl fp) ifs tt)
    (hk : ∀ (s : Shared) (H : Hp) (C : Addr) (cl : List (Str × Addr)) (fp : List Addr) (xe : Value → Shared → Prop), (∀ c d σ' H', Fly X c d σ H' → Fly (Bx X s H scope (compEnvC scope cl C X.env) fp xe) c d σ' H') → PE (Bx X s H scope (compEnvC scope cl C X.env) fp xe) kx tk)
    (he : ∀ (s : Shared) (H : Hp) (C : Addr) (cl : List (Str × Addr)) (fp : List Addr) (xe : Value → Shared → Prop), (∀ c d σ' H', Fly X c d σ H' → Fly (Bx X s H scope (compEnvC scope cl C X.env) fp xe) c d σ' H') → PE (Bx X s H scope (compEnvC scope cl C X.env) fp xe) vx te)
    (hs : ∀ x, foldedSetIterable iter X.env x = pure x) (h : tDc wi g tt tk te (own.map (·.2)) σ H Q)
    (hRR : ∀ Dd ce s' m H', Inv X pins σ H' s' → Q (.ref Dd) H' → s'.heap.Ns ce.locals m → FpOk X pins H' ce.locals → compEnds (model X.prog X.w) X.A X.xe none Qf (.ref Dd) ce (.ok .next) s') :
    wpAny (model X.prog X.w) X.A (comprehension (.DictComp kx vx [⟨tg, iter, ifs, 0⟩] scope pos) scope X.env pos' newDict false (eval iter X.env) none) Qf X.xe s := by
  have caught : ∀ y ∈ scope.names, y.2 = .free → ∃ c, X.env.cells.lookup y.1 = some c := fun y hy e => (ok.free y hy e).elim (fun k => I.ok.has _ (.inl k)) fun k => I.ok.has _ (.inr k)
  refine comprehension_at (use := none) rfl hs (closure_ok caught) ok.kind (fun y hy e => by rw [ok.uniq y hy, e]) (thn (hi.run pins s σ H _ I h) fun xv s1 hx => thn hx fun itv s2 h2 => ?_)
  obtain ⟨it, fp, tn, J, H2, rfl, I2, T, st2, f2, q⟩ := h2
  refine wpAny_newObj_type (newEnv_comp ?_)
  generalize hD : s2.heap.objs.size = Dd
  have hDn : H2 Dd = none := I2.hok.fresh (Nat.le_of_eq hD)
  obtain ⟨W, ⟨m0, w0⟩, turn⟩ := q Dd hDn
  generalize hs3 : ({ s2 with heap := s2.heap.push { cls := .type "dict", data := .dict #[] } } : Shared) = s3
  have h3 : s3.heap = s2.heap.push { cls := .type "dict", data := .dict #[] } := by subst hs3; rfl
  have I3 : Inv X pins σ (upd H2 Dd (.dK [])) s3 := by
    subst hs3
    refine I2.laid (t' := s2.toks) (fun b o e => Heap.get?_push_of_some _ e) (Nat.le_of_eq hD) ?_
    subst hD
    exact dk_empty s2.heap I2.big
  have f3 : ∀ b ∈ fp, FpOk X pins (upd H2 Dd (.dK [])) b ∧ b < s3.heap.objs.size := fun b hb => by
    obtain ⟨o, e, _⟩ := T.obj _ _ st2 b hb
    have lt := Heap.lt_size e
    refine ⟨⟨?_, (f2 b hb).2⟩, by rw [h3, Heap.size_push]; exact Nat.lt_succ_of_lt lt⟩
    rw [upd_ne (by subst hD; exact Nat.ne_of_lt lt)]
    exact (f2 b hb).1
  have st3 : tn 0 s3.heap := T.keep _ _ _ st2 fun b _ o e => by rw [h3]; exact Heap.get?_push_of_some _ e
  have I4 := block_start I3 ok nd f3
  show codeAny _ _ (.compStart (.DictComp kx vx [⟨tg, iter, ifs, 0⟩] scope pos) 0 (.ref it) (.ref Dd) (compEnvC scope (cellsFrom (s3.heap.objs.size + 1) scope.names (cloFrom X.env.cells scope.names [])) s3.heap.objs.size X.env))
    (compEnds (model X.prog X.w) X.A X.xe none Qf (.ref Dd) (compEnvC scope (cellsFrom (s3.heap.objs.size + 1) scope.names (cloFrom X.env.cells scope.names [])) s3.heap.objs.size X.env)) { s3 with heap := pushCells (s3.heap.push { cls := .type "dict", data := .dict #[] }) scope.names }
  generalize hcl : cellsFrom (s3.heap.objs.size + 1) scope.names (cloFrom X.env.cells scope.names []) = cl at I4 ⊢
  have pg : PG (X.blk s3 (upd H2 Dd (.dK [])) scope (compEnvC scope cl s3.heap.objs.size X.env) fp) tg g := hg s3 (upd H2 Dd (.dK [])) s3.heap.objs.size cl fp
  have pt : PTs (X.blk s3 (upd H2 Dd (.dK [])) scope (compEnvC scope cl s3.heap.objs.size X.env) fp) ifs tt := ht s3 (upd H2 Dd (.dK [])) s3.heap.objs.size cl fp
  have flB := fun c d σ' H' fl => fly_block (c := c) (d := d) (σ' := σ') (H' := H') (scope := scope) (ce := compEnvC scope cl s3.heap.objs.size X.env) hs0 hf0 rfl I3 (fun b hb => (f3 b hb).1) (Nat.le_refl _) fl
  have pk := hk s3 (upd H2 Dd (.dK [])) s3.heap.objs.size cl fp (notedBy (model X.prog X.w) X.A (compEnvC scope cl s3.heap.objs.size X.env) (CompFails (model X.prog X.w) X.A X.xe (compEnvC scope cl s3.heap.objs.size X.env))) flB
  have pe := he s3 (upd H2 Dd (.dK [])) s3.heap.objs.size cl fp (notedBy (model X.prog X.w) X.A (compEnvC scope cl s3.heap.objs.size X.env) (CompFails (model X.prog X.w) X.A X.xe (compEnvC scope cl s3.heap.objs.size X.env))) flB
  have nfp : ∀ b ∈ fp, (upd H2 Dd (.dK [])) b = none := fun b hb => (f3 b hb).1.1
  clear flB
  generalize hce : compEnvC scope cl s3.heap.objs.size X.env = ce at I4 pg pt pk pe ⊢
  have cL : ce.locals = s3.heap.objs.size := by subst hce; rfl
  generalize hH3 : upd H2 Dd (.dK []) = H3 at I3 I4 pg pt pk pe w0 nfp f3
  generalize hs4 : ({ s3 with heap := pushCells (s3.heap.push { cls := .type "dict", data := .dict #[] }) scope.names } : Shared) = s4 at I4 ⊢
  have st4 : tn 0 s4.heap := T.keep _ _ _ st3 fun b _ o e => by subst hs4; exact pushCells_keeps _ _ _ _ (Heap.get?_push_of_some _ e)
  have stands : ∀ {σ' : L2.St} {H' : Hp} {s' : Shared}, Inv (X.blk s3 H3 scope ce fp) [] σ' H' s' → (∀ b ∈ fp, H' b = none) → ∀ b ∈ fp, FpOk (X.blk s3 H3 scope ce fp) [] H' b := fun {σ' H' s'} I' hn b hb =>
    ⟨hn b hb, (I'.ok.exf b hb).1, I'.ok.exfs b hb, .inl hb, fun x c e => (I'.ok.exf b hb).2 x c e, fun p hp => by simp at hp⟩
  have loop : codeAny (model X.prog X.w) X.A (.compLoop (.DictComp kx vx [⟨tg, iter, ifs, 0⟩] scope pos) 0 (.ref it) (.ref Dd) ce) (compEnds (model X.prog X.w) X.A X.xe none Qf (.ref Dd) ce) s4 := by
    refine compLoop_anyD (R := compEnds (model X.prog X.w) X.A X.xe none Qf (.ref Dd) ce) (fun n s' => ∃ i H', Inv (X.blk s3 H3 scope ce fp) [] (wipe σ (own.map (·.2))) H' s' ∧ tn i s'.heap ∧ (∀ b ∈ fp, H' b = none) ∧ W i n H') ?_ m0 ⟨0, H3, I4, st4, nfp, w0⟩
    rintro n s5 ⟨i, H5, I5, st5, n5, w5⟩
    rcases turn i n H5 w5 with ⟨stop, qq⟩ | ⟨go, Nx, hNx, step⟩
    · refine thnF (T.done (X.blk s3 H3 scope ce fp) rfl rfl rfl calm i [] s5 _ H5 (fun _ _ => False) I5 (stands I5 n5) st5 stop) fun r s6 ⟨hr, I6⟩ => ?_
      subst hr
      have I7 : Inv X pins σ H5 s6 := I3.call' (ch := fp) I6.os I6.base I6.hok I6.bare fun b hb => ⟨(f3 b hb).1.2.2.2.1, (f3 b hb).1.2.1, (f3 b hb).1.2.2.2.2.1, (f3 b hb).1.2.2.2.2.2⟩
      have nC : H5 ce.locals = none := I6.free
      obtain ⟨m, hn, _⟩ := I6.loc
      exact hRR Dd ce s6 m H5 I7 qq hn (I3.fpOk (by rw [cL]; exact Nat.le_refl _) nC)
    · refine thnF (T.item (X.blk s3 H3 scope ce fp) rfl rfl rfl calm i [] s5 _ H5 (fun _ _ => False) I5 (stands I5 n5) st5 go) fun r s6 ⟨u, hr, h6⟩ => ?_
      subst hr
      refine thnF h6 fun _ s7 ⟨x, H7, I7, r7, y7, st7, n7⟩ => ?_
      have I7' := I7.pinned (stands I7 n7) (T.obj _ _ st7)
      refine thnF (pg.run _ s7 _ H7 x u _ I7' r7 (step x H7 y7)) fun _ s8 ⟨σ8, H8, I8, hw8, q8⟩ => ?_
      refine thnF (pt.run _ s8 σ8 H8 _ I8 q8) fun b s9 ⟨H9, I9, q9⟩ => ?_
      have done : ∀ {s' : Shared} {H' : Hp}, Inv (X.blk s3 H3 scope ce fp) ([] ++ pinsAt fp s7.heap) σ8 H' s' → Nx H' → ∃ m, m < n ∧ ∃ i H', Inv (X.blk s3 H3 scope ce fp) [] (wipe σ (own.map (·.2))) H' s' ∧ tn i s'.heap ∧ (∀ b ∈ fp, H' b = none) ∧ W i m H' := fun {s' H'} I' nx => by
        obtain ⟨m', hm, w'⟩ := hNx H' nx
        have pinned : ∀ b ∈ fp, ∀ o, s7.heap.get? b = some o → s'.heap.get? b = some o ∧ H' b = none := fun b hb o e =>
          have z := I'.pin (b, o) (List.mem_append_right _ (List.mem_append_right _ (mem_pinsAt hb e)))
          ⟨z.1, z.2.1⟩
        refine ⟨m', hm, i + 1, H', (I'.unpinned (pins := [])).weak (by rw [← hw8, wipe_length]) (fun j v e => ?_), T.keep _ _ _ st7 fun b hb o e => (pinned b hb o e).1, fun b hb => ?_, w'⟩
        · rw [← hw8] at e; exact (wipe_some e).1
        · obtain ⟨o, e, _⟩ := T.obj _ _ st7 b hb; exact (pinned b hb o e).2
      cases b with
      | false =>
        simp only [Bool.false_eq_true, if_false] at q9 ⊢
        exact done I9 q9
      | true =>
        simp only [if_true] at q9 ⊢
        refine wpAny_mono (pk.run _ s9 σ8 H9 _ (inv_bx I9) q9) (fun z s10 ⟨yk, H10, I10, r10, q10⟩ => ?_) fun u s10 hx => hx
        refine wpAny_mono (pe.run _ s10 σ8 H10 _ I10 q10) (fun z2 s11 ⟨yv, H11, I11, r11, kvs, k, ek, hD11, hz11, nx⟩ => ?_) fun u s10 hx => hx
        subst ek
        exact d_dictSet (X := X.blk s3 H3 scope ce fp) (inv_ub I11) hD11 hz11 r10 r11 fun s12 I12 => done I12 nx
  exact codeAny_compStart_dict loop (T.self X.A 0 _ _ _ st4 loop)
theorem pe_dcE {kx vx tg iter : Expr} {ifs : List Expr} {scope : Scope} {own : List (Str × Nat)} {pos : Pos} {wi : TI} {g : TG} {tt : TT} {tk te : L2.St → TE} (hs0 : X.stack = X.env :: X.outer) (hf0 : X.env.frame = some X.env.locals) (calm : X.calm = true) (nd : X.N.Nodup) (hi : PI X tg iter wi) (ok : BlkOk X.N X.env.scope scope own)
    (hg : ∀ (s : Shared) (H : Hp) (C : Addr) (cl : List (Str × Addr)) (fp : List Addr), PG (Bk X scope s H C cl fp) tg g) (ht : ∀ (s : Shared) (H : Hp) (C : Addr) (cl : List (Str × Addr)) (fp : List Addr), PTs (Bk X scope s H C cl fp) ifs tt)
    (hk : ∀ (σ : L2.St) (s : Shared) (H : Hp) (C : Addr) (cl : List (Str × Addr)) (fp : List Addr) (xe : Value → Shared → Prop), (∀ c d σ' H', Fly X c d σ H' → Fly (Bx X s H scope (compEnvC scope cl C X.env) fp xe) c d σ' H') → PE (Bx X s H scope (compEnvC scope cl C X.env) fp xe) kx (tk σ))
    (he : ∀ (σ : L2.St) (s : Shared) (H : Hp) (C : Addr) (cl : List (Str × Addr)) (fp : List Addr) (xe : Value → Shared → Prop), (∀ c d σ' H', Fly X c d σ H' → Fly (Bx X s H scope (compEnvC scope cl C X.env) fp xe) c d σ' H') → PE (Bx X s H scope (compEnvC scope cl C X.env) fp xe) vx (te σ)) (hs : ∀ x, foldedSetIterable iter X.env x = pure x) :
    PE X (.DictComp kx vx [⟨tg, iter, ifs, 0⟩] scope pos) (fun σ H Q => tDc wi g tt (tk σ) (te σ) (own.map (·.2)) σ H Q) := by
  refine ⟨fun pins s σ H Q I h => ?_⟩
  rw [arm_eval_DictComp]
  refine dc_raise hs0 hf0 calm nd I hi ok hg ht (hk σ) (he σ) hs h fun Dd ce s' m H' I' q hn f => ⟨m, hn, fun h2 sb => ?_⟩
  obtain ⟨k0, k1, k2, k3, k4, k5⟩ := f
  exact ⟨.ref Dd, H', I'.turned (t' := s'.toks) (fun b o hb e => (sb.2 b hb).trans e) k0 k1 k3 k4 k5, rfl, q⟩
end
def dDctL (g : DG) (c : DT) (bk b : DE) (e : En) : List D → Mu → List Str → List D → Res D
  | [], m, ks, acc => .ok (.dct ks acc) m
  | d :: ds, m, ks, acc => match g d e with
    | none => .stuck
    | some e1 => match c e1 m with
      | .ok true m1 => match bk e1 m1 with
        | .ok (.str x) m2 => match b e1 m2 with
          | .ok v m3 => if x ∉ ks ∧ acc.length < sizeLine then dDctL g c bk b e ds m3 (ks ++ [x]) (acc ++ [v]) else .stuck
          | .exc C fs m3 => .exc C fs m3
          | .stuck => .stuck
        | _ => .stuck
      | .ok false m1 => dDctL g c bk b e ds m1 ks acc
      | _ => .stuck
def dDct (t : DA) (g : DG) (c : DT) (bk b : DE) (own : List Nat) : DE := fun e m => (t e m).bind fun ds m1 => dDctL g c bk b (wipeE e own) ds m1 [] []
@[simp ↓] theorem dDct_ap (t : DA) (g : DG) (c : DT) (bk b : DE) (own : List Nat) (e : En) (m : Mu) : dDct t g c bk b own e m = (t e m).bind fun ds m1 => dDctL g c bk b (wipeE e own) ds m1 [] [] := rfl
@[simp] theorem dDctL_nil (g : DG) (c : DT) (bk b : DE) (e : En) (m : Mu) (ks : List Str) (acc : List D) : dDctL g c bk b e [] m ks acc = .ok (.dct ks acc) m := rfl
theorem dDctL_cons {g : DG} {c : DT} {bk b : DE} {e e1 : En} {d v : D} {ds : List D} {m m1 m2 m3 : Mu} {ks : List Str} {acc : List D} {x : Str} (h1 : g d e = some e1) (h2 : c e1 m = .ok true m1) (h3 : bk e1 m1 = .ok (.str x) m2) (h4 : b e1 m2 = .ok v m3) (h5 : x ∉ ks) (h6 : acc.length < sizeLine) :
    dDctL g c bk b e (d :: ds) m ks acc = dDctL g c bk b e ds m3 (ks ++ [x]) (acc ++ [v]) := by
  conv => lhs; unfold dDctL
  simp [h1, h2, h3, h4, h5, h6]
theorem putK_text {av : List (Key × V)} {ks : List Str} {x : Str} {z : V} (h : av.map (·.1) = ks.map Sum.inr) (hx : x ∉ ks) : putK av (.inr x) z = av ++ [(.inr x, z)] := by
  unfold putK
  rw [if_neg]
  intro hh
  rw [List.any_eq_true] at hh
  obtain ⟨p, hp, hk⟩ := hh
  have : (Sum.inr x : Key) ∈ av.map (·.1) := List.mem_map.mpr ⟨p, hp, of_decide_eq_true hk⟩
  rw [h] at this
  obtain ⟨y, hy, e⟩ := List.mem_map.mp this
  cases e
  exact hx hy
section
variable {X : Cx} {kx elt tg iter : Expr} {ifs : List Expr} {scope : Scope} {own : List (Str × Nat)} {pos spos : Pos} {t : DA} {g : DG} {c : DT} {bk b : DE} {sl : List Nat}
theorem dc_goE {σ : L2.St} {S : Wd} {r : En} {m : Mu} {Q : VK} (hi : PDI X tg iter t)
    (hg : ∀ s H C cl fp, PDG (Bk X scope s H C cl fp) tg g sl) (ht : ∀ s H C cl fp, PDTs (Bk X scope s H C cl fp) ifs c) (hk : ∀ s H C cl fp xe, PDE (Bx X s H scope (compEnvC scope cl C X.env) fp xe) kx bk) (he : ∀ s H C cl fp xe, PDE (Bx X s H scope (compEnvC scope cl C X.env) fp xe) elt b)
    (hsl : ∀ i ∈ sl, i ∈ own.map (·.2))
    (sa : Sta X.K S m) (re : RelE X.K S r σ) (p : PostD X.K S (dDct t g c bk b (own.map (·.2)) r m) Q (fun c d H => Fly X c d σ H)) :
    tDc (WI X tg iter) (bG X scope tg) (bT X scope ifs) (bEx X scope kx σ) (bEx X scope elt σ) (own.map (·.2)) σ S.H Q := by
  refine hi S r m σ _ sa re ?_
  unfold dDct at p
  cases q : t r m with
  | stuck => rw [q] at p; exact p
  | exc C fs m1 => rw [q] at p; exact p
  | ok ds m1 =>
    rw [q] at p
    intro J T st sa1 hJ Dd hD
    have pT : PostD X.K T (dDctL g c bk b (wipeE r (own.map (·.2))) ds m1 [] []) Q (fun c d H => Fly X c d σ H) := Post.step st p
    have reW : RelE X.K T (wipeE r (own.map (·.2))) (wipe σ (own.map (·.2))) := (re.stp st).wipe _
    have f0 := sa1.fresh hD
    refine ⟨fun i n H' => n = ds.length - i ∧ i ≤ ds.length ∧ ∃ (U : Wd) (m' : Mu) (ks : List Str) (acc : List D) (av : List (Key × V)), U.H = H' ∧ Stp T U ∧ Sta X.K U m' ∧ U.H Dd = some (.dK av) ∧ U.F Dd = none ∧ Dd ∉ U.i ∧ av.map (·.1) = ks.map Sum.inr ∧ Reps X.K U.i U.F acc (av.map (·.2)) ∧
        PostD X.K T (dDctL g c bk b (wipeE r (own.map (·.2))) (ds.drop i) m' ks acc) Q (fun c d H => Fly X c d σ H),
      ⟨ds.length, by simp, Nat.zero_le _, T.put Dd (.dK []), m1, [], [], [], rfl, (Stp.refl T).hid hD, sa1.hid f0.1 f0.2 (by rw [hD]; exact nofun), upd_same, f0.1, f0.2, rfl, .nil, pT⟩, ?_⟩
    rintro i n H' ⟨rfl, hi', U, m', ks, acc, av, rfl, stU, saU, hU1, hU2, hU3, hkA, rA, pU⟩
    by_cases hlt : i < ds.length
    · refine .inr ⟨((hJ U m' i stU saU).1 _ (List.getElem?_eq_getElem hlt)).1, fun H2 => i + 1 ≤ ds.length ∧ ∃ (U : Wd) (m' : Mu) (ks : List Str) (acc : List D) (av : List (Key × V)), U.H = H2 ∧ Stp T U ∧ Sta X.K U m' ∧ U.H Dd = some (.dK av) ∧ U.F Dd = none ∧ Dd ∉ U.i ∧ av.map (·.1) = ks.map Sum.inr ∧ Reps X.K U.i U.F acc (av.map (·.2)) ∧
        PostD X.K T (dDctL g c bk b (wipeE r (own.map (·.2))) (ds.drop (i + 1)) m' ks acc) Q (fun c d H => Fly X c d σ H),
        fun H2 h2 => ⟨ds.length - (i + 1), by omega, rfl, h2.1, h2.2⟩, fun x H2 hy => ?_⟩
      obtain ⟨Y, rfl, stY, saY, rdY⟩ := ((hJ U m' i stU saU).1 _ (List.getElem?_eq_getElem hlt)).2 x H2 hy
      obtain ⟨y1, y2, y3⟩ := stY.frame Dd _ (by exact nofun) hU1 hU2 hU3
      rw [List.drop_eq_getElem_cons hlt] at pU
      unfold dDctL at pU
      have stT := stU.trans stY
      cases qg : g ds[i] (wipeE r (own.map (·.2))) with
      | none => rw [qg] at pU; exact (show False from pU).elim
      | some e1 =>
        rw [qg] at pU
        dsimp only at pU
        intro s0 H0 C0 cl0 fp0
        refine hg s0 H0 C0 cl0 fp0 Y (wipeE r (own.map (·.2))) m' (wipe σ (own.map (·.2))) ds[i] x e1 _ saY (reW.stp stT) rdY qg ?_
        intro σ1 re1 bs
        refine ⟨?_, ?_⟩
        · rw [bs _ hsl]
          exact wipe_wipe _ _
        intro s0 H0 C0 cl0 fp0
        cases qc : c e1 m' with
        | stuck => rw [qc] at pU; exact (show False from pU).elim
        | exc C fs m2 => rw [qc] at pU; exact (show False from pU).elim
        | ok k m2 =>
          rw [qc] at pU
          refine ht s0 H0 C0 cl0 fp0 Y e1 m' σ1 _ saY re1 ?_
          rw [qc]
          intro k' Z stZ saZ hk'
          cases (show k = k' from hk')
          obtain ⟨z1, z2, z3⟩ := stZ.frame Dd _ (by exact nofun) y1 y2 y3
          cases k with
          | false =>
            exact iteF ⟨hlt, Z, m2, ks, acc, av, rfl, stT.trans stZ, saZ, z1, z2, z3, hkA, (rA.stp stY).stp stZ, pU⟩
          | true =>
            refine iteT ?_
            intro s0 H0 C0 cl0 fp0 xe0 hfly
            dsimp only at pU
            cases qk : bk e1 m2 with
            | stuck => rw [qk] at pU; exact (show False from pU).elim
            | exc C fs m3 => rw [qk] at pU; exact (show False from pU).elim
            | ok dk m3 =>
              rw [qk] at pU
              refine hk s0 H0 C0 cl0 fp0 xe0 Z e1 m2 σ1 _ saZ (re1.stp stZ) ?_
              rw [qk]
              intro vk V0 stK saK rk
              obtain ⟨k1, k2, k3⟩ := stK.frame Dd _ (by exact nofun) z1 z2 z3
              split at pU
              · rename_i xk m3' ek
                cases ek
                cases rk
                intro s0 H0 C0 cl0 fp0 xe0 hfly
                cases qb : b e1 m3 with
                | stuck => rw [qb] at pU; exact (show False from pU).elim
                | exc C fs m4 =>
                  rw [qb] at pU
                  refine he s0 H0 C0 cl0 fp0 xe0 V0 e1 m3 σ1 _ saK ((re1.stp stZ).stp stK) ?_
                  rw [qb]
                  intro dd vs V1 stV hn saV j1 j2
                  exact hfly _ _ _ _ (pU dd vs V1 (((stT.trans stZ).trans stK).trans stV) (((stT.trans stZ).trans stK).old dd hn) saV j1 j2)
                | ok dx m4 =>
                  rw [qb] at pU
                  refine he s0 H0 C0 cl0 fp0 xe0 V0 e1 m3 σ1 _ saK ((re1.stp stZ).stp stK) ?_
                  rw [qb]
                  intro vx V1 stV saV rx
                  obtain ⟨w1, w2, w3⟩ := stV.frame Dd _ (by exact nofun) k1 k2 k3
                  dsimp only at pU
                  split at pU
                  · rename_i hlen
                    have hlen2 : av.length < sizeLine := by have := rA.len; rw [List.length_map] at this; rw [← this]; exact hlen.2
                    refine ⟨av, .inr xk, rfl, w1, hlen2, hlt, V1.put Dd (.dK (putK av (.inr xk) vx)), m4, ks ++ [xk], acc ++ [dx], av ++ [(.inr xk, vx)], rfl, (((stT.trans stZ).trans stK).trans stV).hid hD, saV.hid w2 w3 (by rw [w1]; exact nofun), by rw [putK_text hkA hlen.1]; exact upd_same, w2, w3, by rw [List.map_append, List.map_append, hkA]; rfl, ?_, pU⟩
                    rw [List.map_append]
                    exact ((((rA.stp stY).stp stZ).stp stK).stp stV).append (.cons rx .nil)
                  · exact (show False from pU).elim
              · exact (show False from pU).elim
    · have e : i = ds.length := by omega
      subst e
      rw [List.drop_length] at pU
      refine .inl ⟨(hJ U m' _ stU saU).2 (Nat.le_refl _), ?_⟩
      have pU : PostD X.K T (Res.ok (D.dct ks acc) m') Q (fun c d H => Fly X c d σ H) := pU
      exact pU (.ref Dd) (U.keep Dd (.dK av)) (stU.kept hD hU2) (saU.keep hU1 hU2 hU3 (by exact nofun)) (.dct upd_same hkA (rA.mono (List.prefix_refl _) (Ext.updNew hU2)))
theorem pd_dcE (hs0 : X.stack = X.env :: X.outer) (hf0 : X.env.frame = some X.env.locals) (hi : PDI X tg iter t) (hN : X.N.Nodup) (ok : BlkOk X.N X.env.scope scope own)
    (hg : ∀ s H C cl fp, PDG (Bk X scope s H C cl fp) tg g sl) (ht : ∀ s H C cl fp, PDTs (Bk X scope s H C cl fp) ifs c) (hk : ∀ s H C cl fp xe, PDE (Bx X s H scope (compEnvC scope cl C X.env) fp xe) kx bk) (he : ∀ s H C cl fp xe, PDE (Bx X s H scope (compEnvC scope cl C X.env) fp xe) elt b)
    (hc : X.calm = true) (hsl : ∀ i ∈ sl, i ∈ own.map (·.2) := by decide) (hs : ∀ x, foldedSetIterable iter X.env x = pure x := by intro _; rfl) :
    PDE X (.DictComp kx elt [⟨tg, iter, ifs, 0⟩] scope pos) (dDct t g c bk b (own.map (·.2))) :=
  pd_of (pe_dcE (tk := bEx X scope kx) (te := bEx X scope elt) hs0 hf0 hc hN (mxI X tg iter) ok (fun s H C cl fp => ⟨fun pins s1 σ H1 v u Q I r h => h s H C cl fp pins s1 u I r⟩) (fun s H C cl fp => ⟨fun pins s1 σ H1 Q I h => h s H C cl fp pins s1 I⟩) (fun σX s H C cl fp xe hf => ⟨fun pins s1 σ H1 Q I h => h s H C cl fp xe hf pins s1 I⟩) (fun σX s H C cl fp xe hf => ⟨fun pins s1 σ H1 Q I h => h s H C cl fp xe hf pins s1 I⟩) hs)
    fun S r m σ Q sa re p => dc_goE hi hg ht hk he hsl sa re p
def dKeyL : List Str → List D → Str → Option D
  | k :: ks, d :: ds, x => if k = x then some d else dKeyL ks ds x
  | _, _, _ => none
def dKey (td ty : DE) : DE := fun e m => (td e m).bind fun d m1 => (ty e m1).bind fun k m2 => match d, k with
  | .dct ks ds, .str x => match dKeyL ks ds x with
    | some v => .ok v m2
    | none => .stuck
  | _, _ => .stuck
@[simp ↓] theorem dKey_ap (td ty : DE) (e : En) (m : Mu) : dKey td ty e m = (td e m).bind fun d m1 => (ty e m1).bind fun k m2 => match d, k with
  | .dct ks ds, .str x => match dKeyL ks ds x with
    | some v => .ok v m2
    | none => .stuck
  | _, _ => .stuck := rfl
@[simp] theorem dKeyL_cons (k : Str) (ks : List Str) (d : D) (ds : List D) (x : Str) : dKeyL (k :: ks) (d :: ds) x = if k = x then some d else dKeyL ks ds x := rfl
variable {o ix : Expr} {td ty : DE}
end
end DL

set_option maxHeartbeats 2000000
namespace DL
open PySem PySem.Spec PyProof.Rows L2
variable [LamTab]
theorem KTx.sqT {K : PySem.W.Frag} {a : Addr} {xs : List V} (h : KTx K a xs) (H : Hp) : SqT K H a xs := by
  obtain ⟨o, its, n, h1, h2, h3, h4, h5, h6⟩ := h
  exact .inr ⟨o, its, n, h1, h2, h4, h5, h6⟩
theorem reps_strs2 {K : PySem.W.Frag} {i : List Addr} {F : Hp} : ∀ zs : List Str, Reps K i F (zs.map .str) (zs.map .str)
  | [] => .nil
  | z :: zs => .cons (.str z) (reps_strs2 zs)
theorem RepA.strs {K : PySem.W.Frag} {a : Addr} {zs : List Str} (h : KTx K a (zs.map .str)) : RepA K (.tup (zs.map .str)) (.ref a) := ⟨fun i F => .tup (h.sqT F) (reps_strs2 zs)⟩
section
variable {X : Cx} {e : Expr} {te : DE} {pos apos cpos : Pos}
def idxS (y : Str) : List Str → Option Nat
  | [] => none
  | x :: xs => if x = y then some 0 else (idxS y xs).map (· + 1)
theorem idxS_ok {y : Str} : ∀ {xs : List Str} {j : Nat}, idxS y xs = some j → xs[j]? = some y ∧ ∀ i, i < j → xs[i]? ≠ some y
  | [], _, h => by cases h
  | x :: xs, j, h => by
    unfold idxS at h
    split at h
    · rename_i hx
      cases h
      exact ⟨by rw [hx]; rfl, fun i hi => by omega⟩
    · rename_i hx
      cases q : idxS y xs with
      | none => rw [q] at h; cases h
      | some k =>
        rw [q] at h
        cases h
        obtain ⟨h1, h2⟩ := idxS_ok q
        refine ⟨h1, fun i hi hz => ?_⟩
        cases i with
        | zero => simp at hz; exact hx hz
        | succ i => exact h2 i (Nat.lt_of_succ_lt_succ hi) (by simpa using hz)
def dKIdx (zs : List Str) (te : DE) : DE := fun e m => (te e m).bind fun d m1 => match d with
  | .str y => match idxS y zs with
    | some j => .ok (.int j) m1
    | none => .stuck
  | _ => .stuck
@[simp ↓] theorem dKIdx_ap (zs : List Str) (te : DE) (e : En) (m : Mu) : dKIdx zs te e m = (te e m).bind fun d m1 => match d with
  | .str y => match idxS y zs with
    | some j => .ok (.int j) m1
    | none => .stuck
  | _ => .stuck := rfl
theorem pd_kidx {x : Str} {p : Pos} {zs : List Str} {a : Addr} (kt : KTx X.K a (zs.map .str)) (hm : X.mg x = some (.ref a)) (he : PDE X e te) (hg : Gl X x := by rfl) (hd : (x == ("__debug__" : Str)) = false := by decide)
    (hbase : attributeBase (.Name x p) "index" X.env (eval (.Name x p) X.env) = eval (.Name x p) X.env := by rfl)
    (hfew : ((backTo cpos (starEach [e] X.env)).all (fun x => !x.1) && (backToKw cpos (keywordEach [] X.env)).all (fun x => x.1.isSome)
      && decide ([e].length + ([] : List Keyword).length + (if ([] : List Keyword).isEmpty then 0 else 1) < 30)) = true := by rfl)
    (hline : (apos.endLine == cpos.line) = true := by rfl) (hs : starEach [e] X.env = (false, eval e X.env) :: starEach [] X.env := by rfl) (hplain : (backTo cpos (starEach [] X.env)).any (·.1) = false := by rfl) :
    PDE X (.Call (.Attribute (.Name x p) "index" apos) [e] [] cpos) (dKIdx zs te) := by
  have ha : PDA X [e] (dCons te dNil) := pda_cons he pda_nil (hs := by exact hs)
  refine pd_of (pe_bm PySem.F.plainAttrs_tuple PySem.F.slot_tuple_index PySem.F.type_tuple_index mt_tup_index (pe_glob (v := .ref a) hg hm rfl hd) (mxA X _) hbase hfew hline hs hplain) fun S r m σ Q sa re p => ?_
  obtain ⟨o, its, n, h1, h2, h3, h4, h5, h6⟩ := kt
  refine ⟨.inr (.inl ⟨rfl, o, h1, h2, h3⟩), ?_⟩
  refine ha S r m σ _ sa re ?_
  unfold dKIdx at p
  unfold dCons dNil
  cases q : te r m with
  | stuck => rw [q] at p; exact p
  | exc C fs m1 => rw [q] at p; exact p
  | ok d m1 =>
    rw [q] at p
    dsimp only [Res.bind_ok] at p ⊢
    intro us T st sa1 rds
    obtain ⟨v, rfl, rv⟩ := reps1 rds
    have p2 := Post.step st p
    clear p
    split at p2
    · rename_i y
      split at p2
      · rename_i j hj
        cases rv
        obtain ⟨k1, k2⟩ := idxS_ok hj
        exact ⟨a, zs, y, j, rfl, rfl, .inr ⟨o, its, n, h1, h2, h4, h5, h6⟩, k1, k2, Post.ok p2 (Stp.refl T) sa1 (.int _)⟩
      · exact p2.elim
    · exact p2.elim
end
end DL

set_option maxHeartbeats 2000000
namespace DL
open PySem PySem.Spec PyProof.Rows L2
variable [LamTab]
mutual
def frzD (k : Nat) (m : Mu) : Nat → D → Option D
  | 0, _ => none
  | f + 1, .loc n => if n < k then some (.loc n) else (match m[n]? with
    | some (.lst ds) => (frzDs k m f ds).map .lst
    | _ => none)
  | f + 1, .lst ds => (frzDs k m f ds).map .lst
  | f + 1, .tup ds => (frzDs k m f ds).map .tup
  | _ + 1, d => if below k d = true then some d else none
def frzDs (k : Nat) (m : Mu) : Nat → List D → Option (List D)
  | 0, _ => none
  | _ + 1, [] => some []
  | f + 1, d :: ds => match frzD k m f d, frzDs k m f ds with
    | some x, some xs => some (x :: xs)
    | _, _ => none
end
open Classical in
noncomputable def zapRN (k : Nat) (r : Res D) : Res D := match r with
  | .ok d m2 => if Cl (m2.take k) ∧ (m2.take k).length = k then (match frzD k m2 400 d with
      | some d' => .ok d' (m2.take k)
      | none => .stuck) else .stuck
  | r => r
noncomputable def dZapN (F : DFn) : DFn := fun ds m => zapRN m.length (F ds m)
section
variable {K : PySem.W.Frag} {S T : Wd} {mS m : Mu}
mutual
theorem frzD_ok (saS : Sta K S mS) (st : Stp S T) (sa : Sta K T m) : ∀ (f : Nat) {d d' : D} {v : V}, Rep K T.i T.F d v → frzD mS.length m f d = some d' → Rep K S.i (T.cut S.i).F d' v
  | 0, d, d', v, r, h => by unfold frzD at h; cases h
  | f + 1, d, d', v, r, h => by
    have other : ∀ {d : D}, Rep K T.i T.F d v → (if below mS.length d = true then some d else none) = some d' → Rep K S.i (T.cut S.i).F d' v := fun {d} r h => by
      split at h
      · rename_i hb
        cases h
        exact r.cut sa st.pre (by rw [saS.len]; exact hb)
      · cases h
    cases r with
    | @loc n a ha =>
      unfold frzD at h
      split at h
      · rename_i hn
        cases h
        exact (Rep.loc ha).cut sa st.pre (by unfold below; rw [saS.len]; exact decide_eq_true hn)
      · rename_i hn
        split at h
        · rename_i ds e1
          cases q : frzDs mS.length m f ds with
          | none => rw [q] at h; cases h
          | some xs =>
            rw [q] at h; cases h
            obtain ⟨us, q1, q2⟩ := sa.ok n a _ ha e1
            refine .lst (.inl (.inl ?_)) (frzDs_ok saS st sa f q2 q)
            rw [cut_at saS st sa (by omega) ha]
            exact q1
        · cases h
    | lst h1 h2 =>
      unfold frzD at h
      rename_i ds _ _
      cases q : frzDs mS.length m f ds with
      | none => rw [q] at h; cases h
      | some xs => rw [q] at h; cases h; exact .lst (SqL.ext' h1 fun a o e => cutF_out sa e S.i) (frzDs_ok saS st sa f h2 q)
    | tup h1 h2 =>
      unfold frzD at h
      rename_i ds _ _
      cases q : frzDs mS.length m f ds with
      | none => rw [q] at h; cases h
      | some xs => rw [q] at h; cases h; exact .tup (SqT.ext' h1 fun a o e => cutF_out sa e S.i) (frzDs_ok saS st sa f h2 q)
    | non => unfold frzD at h; exact other .non h
    | bl b => unfold frzD at h; exact other (.bl b) h
    | int i => unfold frzD at h; exact other (.int i) h
    | str x => unfold frzD at h; exact other (.str x) h
    | obj h1 h2 h3 => unfold frzD at h; exact other (.obj h1 h2 h3) h
    | val v => unfold frzD at h; exact other (.val v) h
    | xob h1 h2 h3 => unfold frzD at h; exact other (.xob h1 h2 h3) h
    | lam h1 => unfold frzD at h; exact other (.lam h1) h
    | clo h1 h2 h3 => unfold frzD at h; exact other (.clo h1 h2 h3) h
    | dct h1 h2 h3 => unfold frzD at h; exact other (.dct h1 h2 h3) h
theorem frzDs_ok (saS : Sta K S mS) (st : Stp S T) (sa : Sta K T m) : ∀ (f : Nat) {ds xs : List D} {vs : List V}, Reps K T.i T.F ds vs → frzDs mS.length m f ds = some xs → Reps K S.i (T.cut S.i).F xs vs
  | 0, ds, xs, vs, r, h => by unfold frzDs at h; cases h
  | f + 1, ds, xs, vs, r, h => by
    cases r with
    | nil => unfold frzDs at h; cases h; exact .nil
    | cons h1 h2 =>
      unfold frzDs at h
      split at h
      · rename_i x xs' q1 q2
        cases h
        exact .cons (frzD_ok saS st sa f h1 q1) (frzDs_ok saS st sa f h2 q2)
      · cases h
end
theorem zapN_ok {r : Res D} {Q : VK} {W : XK} (sa : Sta K S mS) (h : PostD K S (zapRN mS.length r) Q W) : PostD K S r Q W := by
  cases r with
  | stuck => exact h
  | exc C fs m2 => exact h
  | ok d m2 =>
    intro v T st saT rd
    unfold zapRN at h
    dsimp only at h
    split at h
    · rename_i hc
      obtain ⟨hcl, hlen⟩ := hc
      obtain ⟨c1, c2⟩ := cut_ok sa st saT (by intro o ho; have := hcl o ho; rw [hlen] at this; exact this)
      split at h
      · rename_i d' hd
        exact h v (T.cut S.i) c1 c2 (frzD_ok sa st saT 400 rd hd)
      · exact h.elim
    · exact h.elim
end
section
variable {P : Program} {w : World} {K : PySem.W.Frag} {mg : Str → Option Value} {base : Heap}
theorem FnD.zapN {k : Nat} {f : Addr} {fd : FuncData} {ps : List Str} {F : DFn} (h : FnD P w K mg base k f fd ps F) : FnD P w K mg base k f fd ps (dZapN F) :=
  FnOk.imp h fun vs H Q E ⟨h1, S, m, ds, h2, h3, h4, h5⟩ => ⟨h1, S, m, ds, h2, h3, h4, zapN_ok h3 h5⟩
end
def dTupLG (n : Nat) (g : List D → En → Option En) : DG := fun d e => match d with
  | .tup ds => if ds.length = n then g ds e else none
  | .lst ds => if ds.length = n then g ds e else none
  | _ => none
@[simp ↓] theorem dTupLG_ap (n : Nat) (g : List D → En → Option En) (d : D) (e : En) : dTupLG n g d e = match d with
  | .tup ds => if ds.length = n then g ds e else none
  | .lst ds => if ds.length = n then g ds e else none
  | _ => none := rfl
section
variable {X : Cx} {es : List Expr} {pos : Pos}
theorem pdg_tupL {n k : Nat} {g : List D → En → Option En} {sl : List Nat} (hc : X.calm = true) (h : PDGs X es g sl) (hn : (assignEach es X.env).length = n := by rfl) (hst : (assignEach es X.env).findIdx? (·.1) = none := by rfl) : PDG X (.Tuple es k pos) (dTupLG n g) sl := by
  intro S e m σ d v e1 Q sa re rd hh q pins s u I r
  cases rd with
  | tup h1 h2 =>
    unfold dTupLG at hh
    dsimp only at hh
    split at hh
    · rename_i hl
      exact (pg_tup hc (mxGs X es) hn hst).run pins s σ S.H _ u Q I r ⟨_, _, rfl, SqT.ext' h1 sa.sub, by rw [← h2.len]; exact hl, h S e m σ _ _ e1 Q sa re h2 hh q⟩
    · cases hh
  | lst h1 h2 =>
    unfold dTupLG at hh
    dsimp only at hh
    split at hh
    · rename_i hl
      exact (pg_unl hc (mxGs X es) hn hst).run pins s σ S.H _ u Q I r ⟨_, _, rfl, SqL.ext' h1 sa.sub, by rw [← h2.len]; exact hl, h S e m σ _ _ e1 Q sa re h2 hh q⟩
    · cases hh
  | _ => cases hh
end
end DL

namespace W
open PySem DL
instance : LamTab := ⟨fun _ => ⟨Str.empty, ⟨[], [], none, [], [], none, []⟩, .Constant .none 0 ⟨0, 0, 0, 0⟩, default, [], [], []⟩, fun _ => []⟩
structure Cs where
  cRatio : Addr
  cSurvey : Addr
  e_SurveyD_initD : Addr
def Cs.Ok (c : Cs) : Prop := c.cRatio ≠ c.cSurvey ∧ True
def nsRatio : List Str := ["own_top", "own_bottom"]
abbrev Cs.kRatio (c : Cs) : Kl := ⟨c.cRatio, nsRatio⟩
def nsSurvey : List Str := ["own_shares", "own_facts", "tables"]
abbrev Cs.kSurvey (c : Cs) : Kl := ⟨c.cSurvey, nsSurvey⟩
def ans_Ratio__Ratio (c : Cs) : Ans := ⟨[], [(c.cRatio, true)]⟩
def ans_bool (c : Cs) : Ans := ⟨["bool"], []⟩
def ans_bool__Ratio (c : Cs) : Ans := ⟨["bool"], [(c.cRatio, false)]⟩
def ans_int (c : Cs) : Ans := ⟨["int", "bool"], []⟩
def ans_int__Ratio (c : Cs) : Ans := ⟨["int", "bool"], [(c.cRatio, false)]⟩
def ans_list (c : Cs) : Ans := ⟨["list"], []⟩
def ans_list_tuple (c : Cs) : Ans := ⟨["list", "tuple"], []⟩
def ans_str (c : Cs) : Ans := ⟨["str"], []⟩
def ans_str__Ratio (c : Cs) : Ans := ⟨["str"], [(c.cRatio, false)]⟩
def ans_tuple (c : Cs) : Ans := ⟨["tuple"], []⟩
def ans_tuple__Ratio (c : Cs) : Ans := ⟨["tuple"], [(c.cRatio, false)]⟩
noncomputable def F_w_begin (c : Cs) : DFn := dFn 1 (dRet (dLoc (dCons (dFun gList (dCons (dSl (dVar 0) dNoPart (dPart (dC (.int 63)))) dNil)) (dCons (dC (.int 0)) (dCons (dC (.int 0)) (dCons (dBin gAdd (dC (.int 100050)) (dBin gMul (dC (.int 17)) (dFun gLen (dCons (dSl (dVar 0) dNoPart (dPart (dC (.int 63)))) dNil)))) dNil))))))
noncomputable def F_w_take (c : Cs) : DFn := dFn 5 (dSeq (dIfS (dAndT (dTst (dBin gEq (dBin gIx (dVar 0) (dC (.int 2))) (dC (.int 0)))) (dTst (dBin gLt (dBin gIx (dVar 0) (dC (.int 1))) (dFun gLen (dCons (dBin gIx (dVar 0) (dC (.int 0))) dNil))))) (dSeq (dSet 2 (dFun gAbs (dCons (dBin gIx (dBin gIx (dVar 0) (dC (.int 0))) (dBin gIx (dVar 0) (dC (.int 1)))) dNil))) (dSeq (dPutI (dBin gAdd (dBin gIx (dVar 0) (dC (.int 1))) (dC (.int 1))) (dVar 0) (dC (.int 1))) (dIfS (dTst (dBin gGe (dVar 2) (dBin gPow (dC (.int 10)) (dC (.int 18))))) (dPutI (dVar 2) (dVar 0) (dC (.int 2))) (dPutI (dBin gMod (dFun gInt (dCons (dBin gAdd (dBin gAdd (dBin gMul (dBin gIx (dVar 0) (dC (.int 3))) (dC (.int 36919))) (dBin gMul (dBin gMod (dFun gInt (dCons (dVar 2) dNil)) (dC (.int 2147483563))) (dC (.int 7919)))) (dBin gIx (dVar 0) (dC (.int 1)))) dNil)) (dC (.int 2147483629))) (dVar 0) (dC (.int 3)))))) dSkip) (dSeq (dIfS (dTst (dBin gGt (dBin gIx (dVar 0) (dC (.int 2))) (dC (.int 0)))) (dSeq (dSet 3 (dBin gMod (dFun gInt (dCons (dBin gIx (dVar 0) (dC (.int 2))) dNil)) (dVar 1))) (dSeq (dPutI (dBin gDiv (dBin gIx (dVar 0) (dC (.int 2))) (dVar 1)) (dVar 0) (dC (.int 2))) (dRet (dVar 3)))) dSkip) (dSeq (dSet 4 (dBin gIx (dVar 0) (dC (.int 3)))) (dSeq (dPutI (dBin gMod (dFun gInt (dCons (dBin gAdd (dBin gAdd (dBin gMul (dVar 4) (dVar 4)) (dBin gMul (dVar 4) (dC (.int 29423)))) (dC (.int 90001))) dNil)) (dC (.int 2147483647))) (dVar 0) (dC (.int 3))) (dRet (dBin gMod (dFun gInt (dCons (dBin gAdd (dBin gDiv (dBin gIx (dVar 0) (dC (.int 3))) (dC (.int 53))) (dBin gMul (dBin gMod (dFun gInt (dCons (dBin gIx (dVar 0) (dC (.int 3))) dNil)) (dC (.int 7907))) (dC (.int 179)))) dNil)) (dVar 1)))))))
noncomputable def F_w_one (c : Cs) : DFn := dFn 2 (dRet (dBin gIx (dVar 1) (dFun (padF 2 [] (F_w_take c)) (dCons (dVar 0) (dCons (dFun gLen (dCons (dVar 1) dNil)) dNil)))))
noncomputable def F_w_steps (c : Cs) : DFn := dFn 1 (dRet (dFun (padF 2 [] (F_w_one c)) (dCons (dVar 0) (dCons (dLst (dCons (dC (.int 2)) (dCons (dC (.int 3)) (dCons (dC (.int 4)) (dCons (dC (.int 5)) (dCons (dC (.int 6)) (dCons (dC (.int 8)) (dCons (dC (.int 10)) (dCons (dC (.int 12)) (dCons (dC (.int 15)) (dCons (dC (.int 20)) dNil))))))))))) dNil))))
noncomputable def C_w_names_1 (c : Cs) : DE := (dFun (padF 2 [] (F_w_one c)) (dCons (dVar 0) (dCons (dVar 2) dNil)))
theorem C_w_names_1_ap (c : Cs) (e : En) (m : Mu) : C_w_names_1 c e m = (dFun (padF 2 [] (F_w_one c)) (dCons (dVar 0) (dCons (dVar 2) dNil))) e m := rfl
noncomputable def C_w_names_2 (c : Cs) : DE := (dBin gAddS (dBin gAddS (dSlStr (dVar 3) dNoPart (dPart (dVar 5))) (dBin gIx (dVar 2) (dBin gMod (dFun gInt (dCons (dBin gAdd (dVar 6) (dBin gMul (dC (.int 5)) (dVar 4))) dNil)) (dC (.int 26))))) (dSlStr (dVar 3) (dPart (dVar 5)) dNoPart))
theorem C_w_names_2_ap (c : Cs) (e : En) (m : Mu) : C_w_names_2 c e m = (dBin gAddS (dBin gAddS (dSlStr (dVar 3) dNoPart (dPart (dVar 5))) (dBin gIx (dVar 2) (dBin gMod (dFun gInt (dCons (dBin gAdd (dVar 6) (dBin gMul (dC (.int 5)) (dVar 4))) dNil)) (dC (.int 26))))) (dSlStr (dVar 3) (dPart (dVar 5)) dNoPart)) e m := rfl
noncomputable def F_w_names (c : Cs) : DFn := dFn 7 (dSeq (dSet 2 (dC (.str "abcdefghijklmnopqrstuvwxyz"))) (dSeq (dSet 3 (dJoin (dC (.str "")) (dComp (dItR1 (dCons (dFun (padF 2 [] (F_w_one c)) (dCons (dVar 0) (dCons (dLst (dCons (dC (.int 0)) (dCons (dC (.int 0)) (dCons (dC (.int 1)) (dCons (dC (.int 3)) (dCons (dC (.int 7)) dNil)))))) dNil))) dNil)) (dName 4) dYes (C_w_names_1 c) [4]))) (dSeq (dAsg (dTup (dCons (dFun (padF 2 [] (F_w_take c)) (dCons (dVar 0) (dCons (dBin gAdd (dFun gLen (dCons (dVar 3) dNil)) (dC (.int 1))) dNil))) (dCons (dFun (padF 2 [] (F_w_take c)) (dCons (dVar 0) (dCons (dC (.int 26)) dNil))) dNil))) (dTupG 2 (dGcons (dName 5) (dGcons (dName 6) dGnil)))) (dRet (dComp (dItR1 (dCons (dVar 1) dNil)) (dName 4) dYes (C_w_names_2 c) [4])))))
noncomputable def B_w_mixed_1 (c : Cs) : DS := (dDrop (dLm fInsert (dVar 2) (dCons (dFun (padF 2 [] (F_w_take c)) (dCons (dVar 0) (dCons (dBin gAdd (dFun gLen (dCons (dVar 2) dNil)) (dC (.int 1))) dNil))) (dCons (dVar 3) dNil))))
theorem B_w_mixed_1_ap (c : Cs) (e : En) (m : Mu) : B_w_mixed_1 c e m = (dDrop (dLm fInsert (dVar 2) (dCons (dFun (padF 2 [] (F_w_take c)) (dCons (dVar 0) (dCons (dBin gAdd (dFun gLen (dCons (dVar 2) dNil)) (dC (.int 1))) dNil))) (dCons (dVar 3) dNil)))) e m := rfl
noncomputable def F_w_mixed (c : Cs) : DFn := dZap (dFn 4 (dSeq (dSet 2 (dLoc dNil)) (dSeq (dForS (dVar 1) (dName 3) (B_w_mixed_1 c)) (dRet (dVar 2)))))
noncomputable def C_w_facts_1 (c : Cs) : DE := (dTup (dCons (dFun (padF 2 [] (F_w_take c)) (dCons (dVar 0) (dCons (dBin gAdd (dBin gMul (dC (.int 2)) (dVar 2)) (dC (.int 1))) dNil))) (dCons (dFun (padF 2 [] (F_w_take c)) (dCons (dVar 0) (dCons (dBin gAdd (dBin gMul (dC (.int 2)) (dVar 2)) (dC (.int 1))) dNil))) dNil)))
theorem C_w_facts_1_ap (c : Cs) (e : En) (m : Mu) : C_w_facts_1 c e m = (dTup (dCons (dFun (padF 2 [] (F_w_take c)) (dCons (dVar 0) (dCons (dBin gAdd (dBin gMul (dC (.int 2)) (dVar 2)) (dC (.int 1))) dNil))) (dCons (dFun (padF 2 [] (F_w_take c)) (dCons (dVar 0) (dCons (dBin gAdd (dBin gMul (dC (.int 2)) (dVar 2)) (dC (.int 1))) dNil))) dNil))) e m := rfl
noncomputable def B_w_facts_1 (c : Cs) : DS := (dIfS (dTst (dBin gGt (dFun (padF 2 [] (F_w_take c)) (dCons (dVar 0) (dCons (dC (.int 6)) dNil))) (dC (.int 0)))) (dSeq (dSet 8 (dBin gIx (dBin gIx (dVar 3) (dVar 7)) (dVar 6))) (dDrop (dLm fAppend (dVar 5) (dCons (dTup (dCons (dBin gIx (dLst (dCons (dC (.str "out")) (dCons (dC (.str "back")) dNil))) (dVar 6)) (dCons (dTup (dCons (dBin gIx (dVar 1) (dVar 7)) dNil)) (dCons (dBin gSub (dVar 8) (dFun (padF 2 [] (F_w_take c)) (dCons (dVar 0) (dCons (dC (.int 3)) dNil)))) (dCons (dBin gAdd (dVar 8) (dFun (padF 2 [] (F_w_take c)) (dCons (dVar 0) (dCons (dC (.int 3)) dNil)))) dNil))))) dNil)))) dSkip)
theorem B_w_facts_1_ap (c : Cs) (e : En) (m : Mu) : B_w_facts_1 c e m = (dIfS (dTst (dBin gGt (dFun (padF 2 [] (F_w_take c)) (dCons (dVar 0) (dCons (dC (.int 6)) dNil))) (dC (.int 0)))) (dSeq (dSet 8 (dBin gIx (dBin gIx (dVar 3) (dVar 7)) (dVar 6))) (dDrop (dLm fAppend (dVar 5) (dCons (dTup (dCons (dBin gIx (dLst (dCons (dC (.str "out")) (dCons (dC (.str "back")) dNil))) (dVar 6)) (dCons (dTup (dCons (dBin gIx (dVar 1) (dVar 7)) dNil)) (dCons (dBin gSub (dVar 8) (dFun (padF 2 [] (F_w_take c)) (dCons (dVar 0) (dCons (dC (.int 3)) dNil)))) (dCons (dBin gAdd (dVar 8) (dFun (padF 2 [] (F_w_take c)) (dCons (dVar 0) (dCons (dC (.int 3)) dNil)))) dNil))))) dNil)))) dSkip) e m := rfl
noncomputable def B_w_facts_2 (c : Cs) : DS := (dFor (dItR1 (dCons (dFun gLen (dCons (dVar 1) dNil)) dNil)) (dName 7) (B_w_facts_1 c))
theorem B_w_facts_2_ap (c : Cs) (e : En) (m : Mu) : B_w_facts_2 c e m = (dFor (dItR1 (dCons (dFun gLen (dCons (dVar 1) dNil)) dNil)) (dName 7) (B_w_facts_1 c)) e m := rfl
noncomputable def B_w_facts_3 (c : Cs) : DS := (dSeq (dPar 6 10 (dCons (dFun (padF 2 [] (F_w_take c)) (dCons (dVar 0) (dCons (dC (.int 2)) dNil))) (dCons (dFun (padF 2 [] (F_w_take c)) (dCons (dVar 0) (dCons (dFun gLen (dCons (dVar 1) dNil)) dNil))) dNil))) (dSeq (dSet 11 (dBin gMod (dFun gInt (dCons (dBin gAdd (dBin gAdd (dVar 10) (dC (.int 1))) (dFun (padF 2 [] (F_w_take c)) (dCons (dVar 0) (dCons (dBin gSub (dFun gLen (dCons (dVar 1) dNil)) (dC (.int 1))) dNil)))) dNil)) (dFun gLen (dCons (dVar 1) dNil)))) (dSeq (dSet 8 (dBin gSub (dBin gIx (dBin gIx (dVar 3) (dVar 11)) (dVar 6)) (dBin gIx (dBin gIx (dVar 3) (dVar 10)) (dVar 6)))) (dSeq (dPar 12 13 (dCons (dBin gSub (dVar 8) (dFun (padF 2 [] (F_w_take c)) (dCons (dVar 0) (dCons (dC (.int 2)) dNil)))) (dCons (dBin gAdd (dVar 8) (dFun (padF 2 [] (F_w_take c)) (dCons (dVar 0) (dCons (dC (.int 2)) dNil)))) dNil))) (dDrop (dLm fAppend (dVar 5) (dCons (dTup (dCons (dBin gIx (dLst (dCons (dC (.str "out")) (dCons (dC (.str "back")) dNil))) (dVar 6)) (dCons (dTup (dCons (dBin gIx (dVar 1) (dVar 10)) (dCons (dBin gIx (dVar 1) (dVar 11)) dNil))) (dCons (dFun (padF 2 [] (F_w_one c)) (dCons (dVar 0) (dCons (dLst (dCons (dVar 12) (dCons (dVar 12) (dCons (dC .non) dNil)))) dNil))) (dCons (dFun (padF 2 [] (F_w_one c)) (dCons (dVar 0) (dCons (dLst (dCons (dVar 13) (dCons (dVar 13) (dCons (dC .non) dNil)))) dNil))) dNil))))) dNil)))))))
theorem B_w_facts_3_ap (c : Cs) (e : En) (m : Mu) : B_w_facts_3 c e m = (dSeq (dPar 6 10 (dCons (dFun (padF 2 [] (F_w_take c)) (dCons (dVar 0) (dCons (dC (.int 2)) dNil))) (dCons (dFun (padF 2 [] (F_w_take c)) (dCons (dVar 0) (dCons (dFun gLen (dCons (dVar 1) dNil)) dNil))) dNil))) (dSeq (dSet 11 (dBin gMod (dFun gInt (dCons (dBin gAdd (dBin gAdd (dVar 10) (dC (.int 1))) (dFun (padF 2 [] (F_w_take c)) (dCons (dVar 0) (dCons (dBin gSub (dFun gLen (dCons (dVar 1) dNil)) (dC (.int 1))) dNil)))) dNil)) (dFun gLen (dCons (dVar 1) dNil)))) (dSeq (dSet 8 (dBin gSub (dBin gIx (dBin gIx (dVar 3) (dVar 11)) (dVar 6)) (dBin gIx (dBin gIx (dVar 3) (dVar 10)) (dVar 6)))) (dSeq (dPar 12 13 (dCons (dBin gSub (dVar 8) (dFun (padF 2 [] (F_w_take c)) (dCons (dVar 0) (dCons (dC (.int 2)) dNil)))) (dCons (dBin gAdd (dVar 8) (dFun (padF 2 [] (F_w_take c)) (dCons (dVar 0) (dCons (dC (.int 2)) dNil)))) dNil))) (dDrop (dLm fAppend (dVar 5) (dCons (dTup (dCons (dBin gIx (dLst (dCons (dC (.str "out")) (dCons (dC (.str "back")) dNil))) (dVar 6)) (dCons (dTup (dCons (dBin gIx (dVar 1) (dVar 10)) (dCons (dBin gIx (dVar 1) (dVar 11)) dNil))) (dCons (dFun (padF 2 [] (F_w_one c)) (dCons (dVar 0) (dCons (dLst (dCons (dVar 12) (dCons (dVar 12) (dCons (dC .non) dNil)))) dNil))) (dCons (dFun (padF 2 [] (F_w_one c)) (dCons (dVar 0) (dCons (dLst (dCons (dVar 13) (dCons (dVar 13) (dCons (dC .non) dNil)))) dNil))) dNil))))) dNil))))))) e m := rfl
noncomputable def F_w_facts (c : Cs) : DFn := dZap (dFn 14 (dSeq (dSet 3 (dComp (dItL (dVar 1)) (dName 4) dYes (C_w_facts_1 c) [4])) (dSeq (dSet 5 (dLoc dNil)) (dSeq (dFor (dItR1 (dCons (dC (.int 2)) dNil)) (dName 6) (B_w_facts_2 c)) (dSeq (dFor (dItR1 (dCons (dIf (dTst (dBin gGt (dFun gLen (dCons (dVar 1) dNil)) (dC (.int 1)))) (dFun (padF 2 [] (F_w_take c)) (dCons (dVar 0) (dCons (dC (.int 4)) dNil))) (dC (.int 0))) dNil)) (dName 9) (B_w_facts_3 c)) (dRet (dTup (dCons (dFun (padF 2 [] (F_w_mixed c)) (dCons (dVar 0) (dCons (dVar 5) dNil))) (dCons (dVar 3) dNil)))))))))
noncomputable def C_w_shares_1 (c : Cs) : DE := (dTup (dCons (dVar 3) (dCons (dBin gAdd (dC (.int 1)) (dFun (padF 2 [] (F_w_take c)) (dCons (dVar 0) (dCons (dBin gSub (dVar 2) (dC (.int 1))) dNil)))) dNil)))
theorem C_w_shares_1_ap (c : Cs) (e : En) (m : Mu) : C_w_shares_1 c e m = (dTup (dCons (dVar 3) (dCons (dBin gAdd (dC (.int 1)) (dFun (padF 2 [] (F_w_take c)) (dCons (dVar 0) (dCons (dBin gSub (dVar 2) (dC (.int 1))) dNil)))) dNil))) e m := rfl
noncomputable def F_w_shares (c : Cs) : DFn := dFn 4 (dRet (dComp (dItL (dVar 1)) (dName 3) dYes (C_w_shares_1 c) [3]))
noncomputable def F_is_list (c : Cs) : DFn := dFn 1 (dRet (dIsi (ans_list_tuple c) (dVar 0)))
noncomputable def C_is_name_1 (c : Cs) : DE := (dBin gIn (dVar 1) (dC (.str "abcdefghijklmnopqrstuvwxyz")))
theorem C_is_name_1_ap (c : Cs) (e : En) (m : Mu) : C_is_name_1 c e m = (dBin gIn (dVar 1) (dC (.str "abcdefghijklmnopqrstuvwxyz"))) e m := rfl
noncomputable def F_is_name (c : Cs) : DFn := dFn 2 (dSeq (dIfS (dOrT (dNotT (dTst (dIsi (ans_str c) (dVar 0)))) (dNotT (dTst (dChain gLe gLe (dC (.int 1)) (dFun gLen (dCons (dVar 0) dNil)) (dC (.int 8)))))) (dRet (dC (.bl false))) dSkip) (dRet (dFun gAll (dCons (dComp (dItStr (dVar 0)) (dName 1) dYes (C_is_name_1 c) [1]) dNil))))
noncomputable def F_is_whole (c : Cs) : DFn := dFn 1 (dRet (dAnd (dIsi (ans_int__Ratio c) (dVar 0)) (dNot (dIsi (ans_bool__Ratio c) (dVar 0)))))
noncomputable def T_common_divisor_1 (c : Cs) : DT := (dTst (dBin gNe (dVar 1) (dC (.int 0))))
theorem T_common_divisor_1_ap (c : Cs) (e : En) (m : Mu) : T_common_divisor_1 c e m = (dTst (dBin gNe (dVar 1) (dC (.int 0)))) e m := rfl
noncomputable def B_common_divisor_1 (c : Cs) : DS := (dPar 0 1 (dCons (dVar 1) (dCons (dBin gMod (dVar 0) (dVar 1)) dNil)))
theorem B_common_divisor_1_ap (c : Cs) (e : En) (m : Mu) : B_common_divisor_1 c e m = (dPar 0 1 (dCons (dVar 1) (dCons (dBin gMod (dVar 0) (dVar 1)) dNil))) e m := rfl
noncomputable def F_common_divisor (c : Cs) : DFn := dFn 2 (dSeq (dWhile (T_common_divisor_1 c) (B_common_divisor_1 c)) (dRet (dVar 0)))
noncomputable def F_RatioD_initD (c : Cs) : DFn := dFn 4 (dSeq (dIfS (dOrT (dNotT (dTst (dFun (padF 1 [] (F_is_whole c)) (dCons (dVar 1) dNil)))) (dOrT (dNotT (dTst (dFun (padF 1 [] (F_is_whole c)) (dCons (dVar 2) dNil)))) (dTst (dBin gEq (dVar 2) (dC (.int 0)))))) dStuck dSkip) (dSeq (dSet 3 (dFun (padF 2 [] (F_common_divisor c)) (dCons (dFun gAbs (dCons (dVar 1) dNil)) (dCons (dFun gAbs (dCons (dVar 2) dNil)) dNil)))) (dSeq (dSet 3 (dIf (dTst (dBin gLt (dVar 2) (dC (.int 0)))) (dNegI (dVar 3)) (dVar 3))) (dSeq (dPutF [c.cRatio] "own_top" (dBin gDiv (dVar 1) (dVar 3)) (dVar 0)) (dPutF [c.cRatio] "own_bottom" (dBin gDiv (dVar 2) (dVar 3)) (dVar 0))))))
noncomputable def F_Ratio_bottom (c : Cs) : DFn := dFn 1 (dRet (dFld [(c.kRatio, 1)] (dVar 0)))
noncomputable def F_Ratio_top (c : Cs) : DFn := dFn 1 (dRet (dFld [(c.kRatio, 0)] (dVar 0)))
noncomputable def F_Ratio_is_below (c : Cs) : DFn := dFn 2 (dRet (dBin gLt (dBin gMul (dFld [(c.kRatio, 0)] (dVar 0)) (dProp [(c.kRatio, padF 1 [] (F_Ratio_bottom c))] (dVar 1))) (dBin gMul (dProp [(c.kRatio, padF 1 [] (F_Ratio_top c))] (dVar 1)) (dFld [(c.kRatio, 1)] (dVar 0)))))
noncomputable def F_is_between (c : Cs) : DFn := dFn 3 (dSeq (dIfS (dOrT (dNotT (dTst (dIsi (ans_Ratio__Ratio c) (dVar 0)))) (dTr (dMeth [(c.kRatio, padF 2 [] (F_Ratio_is_below c))] (dVar 0) (dCons (dMake c.cRatio (padF 3 [.int 1] (F_RatioD_initD c)) (dCons (dVar 1) dNil)) dNil)))) (dRet (dC (.bl false))) dSkip) (dRet (dOr (dBin gIsN (dVar 2) (dC .non)) (dNot (dMeth [(c.kRatio, padF 2 [] (F_Ratio_is_below c))] (dMake c.cRatio (padF 3 [.int 1] (F_RatioD_initD c)) (dCons (dVar 2) dNil)) (dCons (dVar 0) dNil))))))
noncomputable def F_RatioD_boolD (c : Cs) : DFn := dFn 1 (dRet (dFun gBool (dCons (dFld [(c.kRatio, 0)] (dVar 0)) dNil)))
noncomputable def F_RatioD_eqD (c : Cs) : DFn := dFn 2 (dRet (dAnd (dIsi (ans_Ratio__Ratio c) (dVar 1)) (dAnd (dBin gEq (dFld [(c.kRatio, 0)] (dVar 0)) (dProp [(c.kRatio, padF 1 [] (F_Ratio_top c))] (dVar 1))) (dBin gEq (dFld [(c.kRatio, 1)] (dVar 0)) (dProp [(c.kRatio, padF 1 [] (F_Ratio_bottom c))] (dVar 1))))))
noncomputable def F_need_share (c : Cs) : DFn := dFn 1 (dIfS (dOrT (dNotT (dTst (dFun (padF 3 [] (F_is_between c)) (dCons (dVar 0) (dCons (dC (.int 0)) (dCons (dC (.int 1)) dNil)))))) (dOrT (dNotT (dTrO [(c.kRatio, (padF 1 [] (F_RatioD_boolD c)))] (dVar 0))) (dTst (dBin (dOwnEq false [(c.kRatio, (padF 2 [] (F_RatioD_eqD c)), [(.own c.cRatio)])]) (dVar 0) (dMake c.cRatio (padF 3 [.int 1] (F_RatioD_initD c)) (dCons (dC (.int 1)) dNil)))))) dStuck dSkip)
noncomputable def F_is_ratio (c : Cs) : DFn := dFn 1 (dRet (dIsi (ans_Ratio__Ratio c) (dVar 0)))
noncomputable def C_is_fact_1 (c : Cs) : DE := (dAnd (dIsi (ans_str__Ratio c) (dVar 3)) (dBin gIn (dVar 3) (dVar 1)))
theorem C_is_fact_1_ap (c : Cs) (e : En) (m : Mu) : C_is_fact_1 c e m = (dAnd (dIsi (ans_str__Ratio c) (dVar 3)) (dBin gIn (dVar 3) (dVar 1))) e m := rfl
noncomputable def C_is_fact_2 (c : Cs) : DE := (dOr (dBin gIsN (dVar 6) (dC .non)) (dFun (padF 1 [] (F_is_ratio c)) (dCons (dVar 6) dNil)))
theorem C_is_fact_2_ap (c : Cs) (e : En) (m : Mu) : C_is_fact_2 c e m = (dOr (dBin gIsN (dVar 6) (dC .non)) (dFun (padF 1 [] (F_is_ratio c)) (dCons (dVar 6) dNil))) e m := rfl
noncomputable def F_is_fact (c : Cs) : DFn := dFn 7 (dSeq (dIfS (dOrT (dNotT (dTst (dIsi (ans_tuple c) (dVar 0)))) (dTst (dBin gNotIn (dFun gLen (dCons (dVar 0) dNil)) (dTup (dCons (dC (.int 4)) (dCons (dC (.int 5)) dNil)))))) (dRet (dC (.bl false))) dSkip) (dSeq (dIfS (dOrT (dNotT (dTst (dIsi (ans_str__Ratio c) (dBin gIx (dVar 0) (dC (.int 0)))))) (dTst (dBin gNotIn (dBin gIx (dVar 0) (dC (.int 0))) (dC (.tup [.str "out", .str "back"]))))) (dRet (dC (.bl false))) dSkip) (dSeq (dSet 2 (dSlT (dVar 0) (dPart (dC (.int 1))) (dPart (dNegI (dC (.int 2)))))) (dSeq (dIfS (dOrT (dNotT (dTst (dFun gAll (dCons (dComp (dItT (dVar 2)) (dName 3) dYes (C_is_fact_1 c) [3]) dNil)))) (dAndT (dTst (dBin gEq (dFun gLen (dCons (dVar 2) dNil)) (dC (.int 2)))) (dTst (dBin (orD (orD (dOwnEq false [(c.kRatio, (padF 2 [] (F_RatioD_eqD c)), [(.own c.cRatio), (.prim "NoneType"), (.prim "str")])]) gEq) (gEqX false [] 5)) (dBin gIx (dVar 2) (dC (.int 0))) (dBin gIx (dVar 2) (dC (.int 1))))))) (dRet (dC (.bl false))) dSkip) (dSeq (dPar 4 5 (dCons (dBin gIx (dVar 0) (dNegI (dC (.int 2)))) (dCons (dBin gIx (dVar 0) (dNegI (dC (.int 1)))) dNil))) (dSeq (dIfS (dNotT (dTst (dFun gAll (dCons (dComp (dItT (dTup (dCons (dVar 4) (dCons (dVar 5) dNil)))) (dName 6) dYes (C_is_fact_2 c) [6]) dNil)))) (dRet (dC (.bl false))) dSkip) (dRet (dOr (dBin gIsN (dVar 4) (dC .non)) (dOr (dBin gIsN (dVar 5) (dC .non)) (dNotO [] (dMeth [(c.kRatio, padF 2 [] (F_Ratio_is_below c))] (dVar 5) (dCons (dVar 4) dNil))))))))))))
noncomputable def F_RatioD_negD (c : Cs) : DFn := dFn 1 (dRet (dMake c.cRatio (padF 3 [] (F_RatioD_initD c)) (dCons (dNegI (dFld [(c.kRatio, 0)] (dVar 0))) (dCons (dFld [(c.kRatio, 1)] (dVar 0)) dNil))))
noncomputable def C_bounds_of_1 (c : Cs) : DE := (dTup (dCons (dBin gAdd (dVar 4) (dC (.int 1))) (dCons (dC (.int 0)) (dCons (dMake c.cRatio (padF 3 [.int 1] (F_RatioD_initD c)) (dCons (dC (.int 0)) dNil)) dNil))))
theorem C_bounds_of_1_ap (c : Cs) (e : En) (m : Mu) : C_bounds_of_1 c e m = (dTup (dCons (dBin gAdd (dVar 4) (dC (.int 1))) (dCons (dC (.int 0)) (dCons (dMake c.cRatio (padF 3 [.int 1] (F_RatioD_initD c)) (dCons (dC (.int 0)) dNil)) dNil)))) e m := rfl
noncomputable def C_bounds_of_2 (c : Cs) : DE := (dBin gAdd (dBmL fIndex (dVar 2) (dCons (dVar 7) dNil)) (dC (.int 1)))
theorem C_bounds_of_2_ap (c : Cs) (e : En) (m : Mu) : C_bounds_of_2 c e m = (dBin gAdd (dBmL fIndex (dVar 2) (dCons (dVar 7) dNil)) (dC (.int 1))) e m := rfl
noncomputable def B_bounds_of_1 (c : Cs) : DS := (dIfS (dTst (dBin (orD (dOwnEq false [(c.kRatio, (padF 2 [] (F_RatioD_eqD c)), [(.prim "str")])]) gEq) (dBin gIx (dVar 5) (dC (.int 0))) (dVar 0))) (dSeq (dSet 6 (dComp (dItT (dSlT (dVar 5) (dPart (dC (.int 1))) (dPart (dNegI (dC (.int 2)))))) (dName 7) dYes (C_bounds_of_2 c) [7])) (dSeq (dAsg (dIf (dTst (dBin gEq (dFun gLen (dCons (dVar 6) dNil)) (dC (.int 2)))) (dVar 6) (dTup (dCons (dC (.int 0)) (dCons (dBin gIx (dVar 6) (dC (.int 0))) dNil)))) (dTupLG 2 (dGcons (dName 8) (dGcons (dName 9) dGnil)))) (dSeq (dIfS (dTst (dBin gNotN (dBin gIx (dVar 5) (dNegI (dC (.int 1)))) (dC .non))) (dDrop (dLm fAppend (dVar 3) (dCons (dTup (dCons (dVar 8) (dCons (dVar 9) (dCons (dBin gIx (dVar 5) (dNegI (dC (.int 1)))) dNil)))) dNil))) dSkip) (dIfS (dTst (dBin gNotN (dBin gIx (dVar 5) (dNegI (dC (.int 2)))) (dC .non))) (dDrop (dLm fAppend (dVar 3) (dCons (dTup (dCons (dVar 9) (dCons (dVar 8) (dCons (dNeg c.cRatio (padF 1 [] (F_RatioD_negD c)) (dBin gIx (dVar 5) (dNegI (dC (.int 2))))) dNil)))) dNil))) dSkip)))) dSkip)
theorem B_bounds_of_1_ap (c : Cs) (e : En) (m : Mu) : B_bounds_of_1 c e m = (dIfS (dTst (dBin (orD (dOwnEq false [(c.kRatio, (padF 2 [] (F_RatioD_eqD c)), [(.prim "str")])]) gEq) (dBin gIx (dVar 5) (dC (.int 0))) (dVar 0))) (dSeq (dSet 6 (dComp (dItT (dSlT (dVar 5) (dPart (dC (.int 1))) (dPart (dNegI (dC (.int 2)))))) (dName 7) dYes (C_bounds_of_2 c) [7])) (dSeq (dAsg (dIf (dTst (dBin gEq (dFun gLen (dCons (dVar 6) dNil)) (dC (.int 2)))) (dVar 6) (dTup (dCons (dC (.int 0)) (dCons (dBin gIx (dVar 6) (dC (.int 0))) dNil)))) (dTupLG 2 (dGcons (dName 8) (dGcons (dName 9) dGnil)))) (dSeq (dIfS (dTst (dBin gNotN (dBin gIx (dVar 5) (dNegI (dC (.int 1)))) (dC .non))) (dDrop (dLm fAppend (dVar 3) (dCons (dTup (dCons (dVar 8) (dCons (dVar 9) (dCons (dBin gIx (dVar 5) (dNegI (dC (.int 1)))) dNil)))) dNil))) dSkip) (dIfS (dTst (dBin gNotN (dBin gIx (dVar 5) (dNegI (dC (.int 2)))) (dC .non))) (dDrop (dLm fAppend (dVar 3) (dCons (dTup (dCons (dVar 9) (dCons (dVar 8) (dCons (dNeg c.cRatio (padF 1 [] (F_RatioD_negD c)) (dBin gIx (dVar 5) (dNegI (dC (.int 2))))) dNil)))) dNil))) dSkip)))) dSkip) e m := rfl
noncomputable def F_bounds_of (c : Cs) : DFn := dZap (dFn 10 (dSeq (dSet 3 (dCompM (dItR1 (dCons (dFun gLen (dCons (dVar 2) dNil)) dNil)) (dName 4) dYes (C_bounds_of_1 c) [4])) (dSeq (dFor (dItL (dVar 1)) (dName 5) (B_bounds_of_1 c)) (dRet (dVar 3)))))
noncomputable def F_RatioD_addD (c : Cs) : DFn := dFn 2 (dRet (dMake c.cRatio (padF 3 [] (F_RatioD_initD c)) (dCons (dBin gAdd (dBin gMul (dFld [(c.kRatio, 0)] (dVar 0)) (dProp [(c.kRatio, padF 1 [] (F_Ratio_bottom c))] (dVar 1))) (dBin gMul (dProp [(c.kRatio, padF 1 [] (F_Ratio_top c))] (dVar 1)) (dFld [(c.kRatio, 1)] (dVar 0)))) (dCons (dBin gMul (dFld [(c.kRatio, 1)] (dVar 0)) (dProp [(c.kRatio, padF 1 [] (F_Ratio_bottom c))] (dVar 1))) dNil))))
noncomputable def C_closed_bounds_1 (c : Cs) : DE := (dIf (dTst (dBin gEq (dVar 6) (dVar 5))) (dMake c.cRatio (padF 3 [.int 1] (F_RatioD_initD c)) (dCons (dC (.int 0)) dNil)) (dC .non))
theorem C_closed_bounds_1_ap (c : Cs) (e : En) (m : Mu) : C_closed_bounds_1 c e m = (dIf (dTst (dBin gEq (dVar 6) (dVar 5))) (dMake c.cRatio (padF 3 [.int 1] (F_RatioD_initD c)) (dCons (dC (.int 0)) dNil)) (dC .non)) e m := rfl
noncomputable def C_closed_bounds_2 (c : Cs) : DE := (dCompM (dItR1 (dCons (dVar 3) dNil)) (dName 5) dYes (C_closed_bounds_1 c) [5])
theorem C_closed_bounds_2_ap (c : Cs) (e : En) (m : Mu) : C_closed_bounds_2 c e m = (dCompM (dItR1 (dCons (dVar 3) dNil)) (dName 5) dYes (C_closed_bounds_1 c) [5]) e m := rfl
noncomputable def B_closed_bounds_1 (c : Cs) : DS := (dIfS (dOrT (dTst (dBin gIsN (dBin gIx (dBin gIx (dVar 4) (dVar 6)) (dVar 5)) (dC .non))) (dTr (dMeth [(c.kRatio, padF 2 [] (F_Ratio_is_below c))] (dVar 7) (dCons (dBin gIx (dBin gIx (dVar 4) (dVar 6)) (dVar 5)) dNil)))) (dPutI (dVar 7) (dBin gIx (dVar 4) (dVar 6)) (dVar 5)) dSkip)
theorem B_closed_bounds_1_ap (c : Cs) (e : En) (m : Mu) : B_closed_bounds_1 c e m = (dIfS (dOrT (dTst (dBin gIsN (dBin gIx (dBin gIx (dVar 4) (dVar 6)) (dVar 5)) (dC .non))) (dTr (dMeth [(c.kRatio, padF 2 [] (F_Ratio_is_below c))] (dVar 7) (dCons (dBin gIx (dBin gIx (dVar 4) (dVar 6)) (dVar 5)) dNil)))) (dPutI (dVar 7) (dBin gIx (dVar 4) (dVar 6)) (dVar 5)) dSkip) e m := rfl
noncomputable def B_closed_bounds_2 (c : Cs) : DS := (dSeq (dPar 9 10 (dCons (dBin gIx (dBin gIx (dVar 4) (dVar 6)) (dVar 8)) (dCons (dBin gIx (dBin gIx (dVar 4) (dVar 8)) (dVar 5)) dNil))) (dIfS (dAndT (dTst (dBin gNotN (dVar 9) (dC .non))) (dTst (dBin gNotN (dVar 10) (dC .non)))) (dIfS (dOrT (dTst (dBin gIsN (dBin gIx (dBin gIx (dVar 4) (dVar 6)) (dVar 5)) (dC .non))) (dTr (dMeth [(c.kRatio, padF 2 [] (F_Ratio_is_below c))] (dBin (orD gAddS (dOwn2 c.cRatio (padF 2 [] (F_RatioD_addD c)))) (dVar 9) (dVar 10)) (dCons (dBin gIx (dBin gIx (dVar 4) (dVar 6)) (dVar 5)) dNil)))) (dPutI (dBin (orD gAddS (dOwn2 c.cRatio (padF 2 [] (F_RatioD_addD c)))) (dVar 9) (dVar 10)) (dBin gIx (dVar 4) (dVar 6)) (dVar 5)) dSkip) dSkip))
theorem B_closed_bounds_2_ap (c : Cs) (e : En) (m : Mu) : B_closed_bounds_2 c e m = (dSeq (dPar 9 10 (dCons (dBin gIx (dBin gIx (dVar 4) (dVar 6)) (dVar 8)) (dCons (dBin gIx (dBin gIx (dVar 4) (dVar 8)) (dVar 5)) dNil))) (dIfS (dAndT (dTst (dBin gNotN (dVar 9) (dC .non))) (dTst (dBin gNotN (dVar 10) (dC .non)))) (dIfS (dOrT (dTst (dBin gIsN (dBin gIx (dBin gIx (dVar 4) (dVar 6)) (dVar 5)) (dC .non))) (dTr (dMeth [(c.kRatio, padF 2 [] (F_Ratio_is_below c))] (dBin (orD gAddS (dOwn2 c.cRatio (padF 2 [] (F_RatioD_addD c)))) (dVar 9) (dVar 10)) (dCons (dBin gIx (dBin gIx (dVar 4) (dVar 6)) (dVar 5)) dNil)))) (dPutI (dBin (orD gAddS (dOwn2 c.cRatio (padF 2 [] (F_RatioD_addD c)))) (dVar 9) (dVar 10)) (dBin gIx (dVar 4) (dVar 6)) (dVar 5)) dSkip) dSkip)) e m := rfl
noncomputable def B_closed_bounds_3 (c : Cs) : DS := (dFor (dItR1 (dCons (dVar 3) dNil)) (dName 5) (B_closed_bounds_2 c))
theorem B_closed_bounds_3_ap (c : Cs) (e : En) (m : Mu) : B_closed_bounds_3 c e m = (dFor (dItR1 (dCons (dVar 3) dNil)) (dName 5) (B_closed_bounds_2 c)) e m := rfl
noncomputable def B_closed_bounds_4 (c : Cs) : DS := (dFor (dItR1 (dCons (dVar 3) dNil)) (dName 6) (B_closed_bounds_3 c))
theorem B_closed_bounds_4_ap (c : Cs) (e : En) (m : Mu) : B_closed_bounds_4 c e m = (dFor (dItR1 (dCons (dVar 3) dNil)) (dName 6) (B_closed_bounds_3 c)) e m := rfl
noncomputable def C_closed_bounds_3 (c : Cs) : DE := (dMeth [(c.kRatio, padF 2 [] (F_Ratio_is_below c))] (dBin gIx (dBin gIx (dVar 4) (dVar 11)) (dVar 11)) (dCons (dMake c.cRatio (padF 3 [.int 1] (F_RatioD_initD c)) (dCons (dC (.int 0)) dNil)) dNil))
theorem C_closed_bounds_3_ap (c : Cs) (e : En) (m : Mu) : C_closed_bounds_3 c e m = (dMeth [(c.kRatio, padF 2 [] (F_Ratio_is_below c))] (dBin gIx (dBin gIx (dVar 4) (dVar 11)) (dVar 11)) (dCons (dMake c.cRatio (padF 3 [.int 1] (F_RatioD_initD c)) (dCons (dC (.int 0)) dNil)) dNil)) e m := rfl
noncomputable def F_closed_bounds (c : Cs) : DFn := dZapN (dFn 12 (dSeq (dSet 3 (dBin gAdd (dFun gLen (dCons (dVar 2) dNil)) (dC (.int 1)))) (dSeq (dSet 4 (dComp (dItR1 (dCons (dVar 3) dNil)) (dName 6) dYes (C_closed_bounds_2 c) [6])) (dSeq (dForS (dFun (padF 3 [] (F_bounds_of c)) (dCons (dVar 0) (dCons (dVar 1) (dCons (dVar 2) dNil)))) (dTupG 3 (dGcons (dName 6) (dGcons (dName 5) (dGcons (dName 7) dGnil)))) (B_closed_bounds_1 c)) (dSeq (dFor (dItR1 (dCons (dVar 3) dNil)) (dName 8) (B_closed_bounds_4 c)) (dSeq (dIfS (dTst (dFun gAny (dCons (dComp (dItR1 (dCons (dVar 3) dNil)) (dName 11) dYes (C_closed_bounds_3 c) [11]) dNil))) dStuck dSkip) (dRet (dVar 4))))))))
noncomputable def C_SurveyD_initD_1 (c : Cs) : DE := (dAnd (dIsi (ans_tuple c) (dVar 3)) (dBin gEq (dFun gLen (dCons (dVar 3) dNil)) (dC (.int 2))))
theorem C_SurveyD_initD_1_ap (c : Cs) (e : En) (m : Mu) : C_SurveyD_initD_1 c e m = (dAnd (dIsi (ans_tuple c) (dVar 3)) (dBin gEq (dFun gLen (dCons (dVar 3) dNil)) (dC (.int 2)))) e m := rfl
noncomputable def B_SurveyD_initD_1 (c : Cs) : DS := (dIfS (dNotT (dTst (dFun (padF 1 [] (F_is_name c)) (dCons (dVar 5) dNil)))) dStuck dSkip)
theorem B_SurveyD_initD_1_ap (c : Cs) (e : En) (m : Mu) : B_SurveyD_initD_1 c e m = (dIfS (dNotT (dTst (dFun (padF 1 [] (F_is_name c)) (dCons (dVar 5) dNil)))) dStuck dSkip) e m := rfl
noncomputable def B_SurveyD_initD_2 (c : Cs) : DS := (dDrop (dFun (padF 1 [] (F_need_share c)) (dCons (dVar 6) dNil)))
theorem B_SurveyD_initD_2_ap (c : Cs) (e : En) (m : Mu) : B_SurveyD_initD_2 c e m = (dDrop (dFun (padF 1 [] (F_need_share c)) (dCons (dVar 6) dNil))) e m := rfl
noncomputable def B_SurveyD_initD_3 (c : Cs) : DS := (dIfS (dTst (dBin gIn (dVar 5) (dSl (dVar 4) dNoPart (dPart (dVar 7))))) dStuck dSkip)
theorem B_SurveyD_initD_3_ap (c : Cs) (e : En) (m : Mu) : B_SurveyD_initD_3 c e m = (dIfS (dTst (dBin gIn (dVar 5) (dSl (dVar 4) dNoPart (dPart (dVar 7))))) dStuck dSkip) e m := rfl
noncomputable def B_SurveyD_initD_4 (c : Cs) : DS := (dIfS (dNotT (dTst (dFun (padF 2 [] (F_is_fact c)) (dCons (dVar 8) (dCons (dVar 4) dNil))))) dStuck dSkip)
theorem B_SurveyD_initD_4_ap (c : Cs) (e : En) (m : Mu) : B_SurveyD_initD_4 c e m = (dIfS (dNotT (dTst (dFun (padF 2 [] (F_is_fact c)) (dCons (dVar 8) (dCons (dVar 4) dNil))))) dStuck dSkip) e m := rfl
noncomputable def C_SurveyD_initD_2 (c : Cs) : DE := (dFun (padF 3 [] (F_closed_bounds c)) (dCons (dVar 9) (dCons (dVar 2) (dCons (dVar 4) dNil))))
theorem C_SurveyD_initD_2_ap (c : Cs) (e : En) (m : Mu) : C_SurveyD_initD_2 c e m = (dFun (padF 3 [] (F_closed_bounds c)) (dCons (dVar 9) (dCons (dVar 2) (dCons (dVar 4) dNil)))) e m := rfl
noncomputable def F_SurveyD_initD (c : Cs) : DFn := dFn 10 (dSeq (dIfS (dOrT (dNotT (dTst (dFun (padF 1 [] (F_is_list c)) (dCons (dVar 1) dNil)))) (dTst (dBin gEq (dFun gLen (dCons (dVar 1) dNil)) (dC (.int 0))))) dStuck dSkip) (dSeq (dIfS (dNotT (dTst (dFun gAll (dCons (dComp (dItL (dVar 1)) (dName 3) dYes (C_SurveyD_initD_1 c) [3]) dNil)))) dStuck dSkip) (dSeq (dSet 4 (dComp (dItL (dVar 1)) (dTupG 2 (dGcons (dName 5) (dGcons (dName 6) dGnil))) dYes (dVar 5) [5, 6])) (dSeq (dFor (dItL (dVar 4)) (dName 5) (B_SurveyD_initD_1 c)) (dSeq (dFor (dItL (dVar 1)) (dTupG 2 (dGcons (dName 5) (dGcons (dName 6) dGnil))) (B_SurveyD_initD_2 c)) (dSeq (dIfS (dTst (dBin gGt (dFun gLen (dCons (dVar 4) dNil)) (dC (.int 12)))) dStuck dSkip) (dSeq (dFor (dItE (dCons (dVar 4) dNil)) (dTupG 2 (dGcons (dName 7) (dGcons (dName 5) dGnil))) (B_SurveyD_initD_3 c)) (dSeq (dIfS (dNotT (dTst (dFun (padF 1 [] (F_is_list c)) (dCons (dVar 2) dNil)))) dStuck dSkip) (dSeq (dFor (dItE (dCons (dVar 2) dNil)) (dTupG 2 (dGcons (dName 7) (dGcons (dName 8) dGnil))) (B_SurveyD_initD_4 c)) (dSeq (dPutF [c.cSurvey] "own_shares" (dFun gTuple (dCons (dVar 1) dNil)) (dVar 0)) (dSeq (dPutF [c.cSurvey] "own_facts" (dFun gList (dCons (dVar 2) dNil)) (dVar 0)) (dPutF [c.cSurvey] "tables" (dDct (dItT (dC (.tup [.str "out", .str "back"]))) (dName 9) dYes (dVar 9) (C_SurveyD_initD_2 c) [9]) (dVar 0)))))))))))))
noncomputable def C_w_fact_1 (c : Cs) : DE := (dIf (dTst (dBin gIsN (dVar 7) (dC .non))) (dC .non) (dMake c.cRatio (padF 3 [] (F_RatioD_initD c)) (dCons (dVar 7) (dCons (dVar 1) dNil))))
theorem C_w_fact_1_ap (c : Cs) (e : En) (m : Mu) : C_w_fact_1 c e m = (dIf (dTst (dBin gIsN (dVar 7) (dC .non))) (dC .non) (dMake c.cRatio (padF 3 [] (F_RatioD_initD c)) (dCons (dVar 7) (dCons (dVar 1) dNil)))) e m := rfl
noncomputable def F_w_fact (c : Cs) : DFn := dFn 8 (dSeq (dAsg (dVar 0) (dTupG 4 (dGcons (dName 2) (dGcons (dName 3) (dGcons (dName 4) (dGcons (dName 5) dGnil)))))) (dSeq (dSet 6 (dFun gTuple (dCons (dComp (dItL (dLst (dCons (dVar 4) (dCons (dVar 5) dNil)))) (dName 7) dYes (C_w_fact_1 c) [7]) dNil))) (dRet (dBin gCatT (dBin gCatT (dTup (dCons (dVar 2) dNil)) (dVar 3)) (dVar 6)))))
noncomputable def C_w_survey_1 (c : Cs) : DE := (dFun (padF 2 [] (F_w_fact c)) (dCons (dVar 5) (dCons (dVar 2) dNil)))
theorem C_w_survey_1_ap (c : Cs) (e : En) (m : Mu) : C_w_survey_1 c e m = (dFun (padF 2 [] (F_w_fact c)) (dCons (dVar 5) (dCons (dVar 2) dNil))) e m := rfl
noncomputable def C_w_survey_2 (c : Cs) : DE := (dTup (dCons (dVar 3) (dCons (dMake c.cRatio (padF 3 [] (F_RatioD_initD c)) (dCons (dVar 4) (dCons (dVar 2) dNil))) dNil)))
theorem C_w_survey_2_ap (c : Cs) (e : En) (m : Mu) : C_w_survey_2 c e m = (dTup (dCons (dVar 3) (dCons (dMake c.cRatio (padF 3 [] (F_RatioD_initD c)) (dCons (dVar 4) (dCons (dVar 2) dNil))) dNil))) e m := rfl
noncomputable def F_w_survey (c : Cs) : DFn := dFn 6 (dRet (dMake c.cSurvey (padF 3 [] (F_SurveyD_initD c)) (dCons (dComp (dItL (dVar 0)) (dTupG 2 (dGcons (dName 3) (dGcons (dName 4) dGnil))) dYes (C_w_survey_2 c) [3, 4]) (dCons (dCompS fF (dVar 1) (dName 5) dYes (C_w_survey_1 c) [5]) dNil))))
noncomputable def F_RatioD_subD (c : Cs) : DFn := dFn 2 (dRet (dMake c.cRatio (padF 3 [] (F_RatioD_initD c)) (dCons (dBin gSub (dBin gMul (dFld [(c.kRatio, 0)] (dVar 0)) (dProp [(c.kRatio, padF 1 [] (F_Ratio_bottom c))] (dVar 1))) (dBin gMul (dProp [(c.kRatio, padF 1 [] (F_Ratio_top c))] (dVar 1)) (dFld [(c.kRatio, 1)] (dVar 0)))) (dCons (dBin gMul (dFld [(c.kRatio, 1)] (dVar 0)) (dProp [(c.kRatio, padF 1 [] (F_Ratio_bottom c))] (dVar 1))) dNil))))
noncomputable def C_w_is_fit_1 (c : Cs) : DE := (dBin gIx (dBin gIx (dVar 2) (dBmL fIndex (dVar 0) (dCons (dVar 8) dNil))) (dFun gInt (dCons (dBin gEq (dVar 3) (dC (.str "back"))) dNil)))
theorem C_w_is_fit_1_ap (c : Cs) (e : En) (m : Mu) : C_w_is_fit_1 c e m = (dBin gIx (dBin gIx (dVar 2) (dBmL fIndex (dVar 0) (dCons (dVar 8) dNil))) (dFun gInt (dCons (dBin gEq (dVar 3) (dC (.str "back"))) dNil))) e m := rfl
noncomputable def B_w_is_fit_1 (c : Cs) : DS := (dSeq (dSet 7 (dComp (dItT (dVar 4)) (dName 8) dYes (C_w_is_fit_1 c) [8])) (dSeq (dSet 9 (dBin (orD gSub (dOwn2 c.cRatio (padF 2 [] (F_RatioD_subD c)))) (dBin gIx (dVar 7) (dBin gSub (dFun gLen (dCons (dVar 7) dNil)) (dC (.int 1)))) (dIf (dTst (dBin gEq (dFun gLen (dCons (dVar 7) dNil)) (dC (.int 2)))) (dBin gIx (dVar 7) (dC (.int 0))) (dC (.int 0))))) (dIfS (dOrT (dAndT (dTst (dBin gNotN (dVar 5) (dC .non))) (dTst (dBin gLt (dVar 9) (dVar 5)))) (dAndT (dTst (dBin gNotN (dVar 6) (dC .non))) (dTst (dBin gGt (dVar 9) (dVar 6))))) (dRet (dC (.bl false))) dSkip)))
theorem B_w_is_fit_1_ap (c : Cs) (e : En) (m : Mu) : B_w_is_fit_1 c e m = (dSeq (dSet 7 (dComp (dItT (dVar 4)) (dName 8) dYes (C_w_is_fit_1 c) [8])) (dSeq (dSet 9 (dBin (orD gSub (dOwn2 c.cRatio (padF 2 [] (F_RatioD_subD c)))) (dBin gIx (dVar 7) (dBin gSub (dFun gLen (dCons (dVar 7) dNil)) (dC (.int 1)))) (dIf (dTst (dBin gEq (dFun gLen (dCons (dVar 7) dNil)) (dC (.int 2)))) (dBin gIx (dVar 7) (dC (.int 0))) (dC (.int 0))))) (dIfS (dOrT (dAndT (dTst (dBin gNotN (dVar 5) (dC .non))) (dTst (dBin gLt (dVar 9) (dVar 5)))) (dAndT (dTst (dBin gNotN (dVar 6) (dC .non))) (dTst (dBin gGt (dVar 9) (dVar 6))))) (dRet (dC (.bl false))) dSkip))) e m := rfl
noncomputable def C_w_is_fit_2 (c : Cs) : DE := (dAnd (dBin gGe (dBin gIx (dVar 10) (dC (.int 0))) (dC (.int 0))) (dBin gGe (dBin gIx (dVar 10) (dC (.int 1))) (dC (.int 0))))
theorem C_w_is_fit_2_ap (c : Cs) (e : En) (m : Mu) : C_w_is_fit_2 c e m = (dAnd (dBin gGe (dBin gIx (dVar 10) (dC (.int 0))) (dC (.int 0))) (dBin gGe (dBin gIx (dVar 10) (dC (.int 1))) (dC (.int 0)))) e m := rfl
noncomputable def F_w_is_fit (c : Cs) : DFn := dFn 11 (dSeq (dForS (dVar 1) (dTupG 4 (dGcons (dName 3) (dGcons (dName 4) (dGcons (dName 5) (dGcons (dName 6) dGnil))))) (B_w_is_fit_1 c)) (dRet (dFun gAll (dCons (dComp (dItL (dVar 2)) (dName 10) dYes (C_w_is_fit_2 c) [10]) dNil))))
noncomputable def F_Survey_names (c : Cs) : DFn := dFn 3 (dRet (dComp (dItT (dFld [(c.kSurvey, 0)] (dVar 0))) (dTupG 2 (dGcons (dName 1) (dGcons (dName 2) dGnil))) dYes (dVar 1) [1, 2]))
noncomputable def F_has_bounds (c : Cs) : DFn := dFn 3 (dRet (dAnd (dOr (dBin gIsN (dVar 1) (dC .non)) (dNotO [] (dMeth [(c.kRatio, padF 2 [] (F_Ratio_is_below c))] (dVar 0) (dCons (dVar 1) dNil)))) (dOr (dBin gIsN (dVar 2) (dC .non)) (dNotO [] (dMeth [(c.kRatio, padF 2 [] (F_Ratio_is_below c))] (dVar 2) (dCons (dVar 0) dNil))))))
noncomputable def C_Survey_is_fit_1 (c : Cs) : DE := (dAnd (dIsi (ans_tuple__Ratio c) (dVar 2)) (dBin gEq (dFun gLen (dCons (dVar 2) dNil)) (dC (.int 2))))
theorem C_Survey_is_fit_1_ap (c : Cs) (e : En) (m : Mu) : C_Survey_is_fit_1 c e m = (dAnd (dIsi (ans_tuple__Ratio c) (dVar 2)) (dBin gEq (dFun gLen (dCons (dVar 2) dNil)) (dC (.int 2)))) e m := rfl
noncomputable def J_Survey_is_fit_1 (c : Cs) : DA := (orA (dItL (dVar 2)) (orA (dItT (dVar 2)) (dItStr (dVar 2))))
theorem J_Survey_is_fit_1_ap (c : Cs) (e : En) (m : Mu) : J_Survey_is_fit_1 c e m = (orA (dItL (dVar 2)) (orA (dItT (dVar 2)) (dItStr (dVar 2)))) e m := rfl
noncomputable def C_Survey_is_fit_2 (c : Cs) : DE := (dFun (padF 3 [] (F_is_between c)) (dCons (dVar 3) (dCons (dC (.int 0)) (dCons (dC .non) dNil))))
theorem C_Survey_is_fit_2_ap (c : Cs) (e : En) (m : Mu) : C_Survey_is_fit_2 c e m = (dFun (padF 3 [] (F_is_between c)) (dCons (dVar 3) (dCons (dC (.int 0)) (dCons (dC .non) dNil)))) e m := rfl
noncomputable def C_Survey_is_fit_3 (c : Cs) : DE := (dBin gIx (dBin gIx (dVar 1) (dBmL fIndex (dVar 4) (dCons (dVar 7) dNil))) (dKIdx ["out", "back"] (dBin gIx (dVar 5) (dC (.int 0)))))
theorem C_Survey_is_fit_3_ap (c : Cs) (e : En) (m : Mu) : C_Survey_is_fit_3 c e m = (dBin gIx (dBin gIx (dVar 1) (dBmL fIndex (dVar 4) (dCons (dVar 7) dNil))) (dKIdx ["out", "back"] (dBin gIx (dVar 5) (dC (.int 0))))) e m := rfl
noncomputable def B_Survey_is_fit_1 (c : Cs) : DS := (dSeq (dSet 6 (dComp (dItT (dSlT (dVar 5) (dPart (dC (.int 1))) (dPart (dNegI (dC (.int 2)))))) (dName 7) dYes (C_Survey_is_fit_3 c) [7])) (dSeq (dSet 3 (dIf (dTst (dBin gEq (dFun gLen (dCons (dVar 6) dNil)) (dC (.int 1)))) (dBin gIx (dVar 6) (dC (.int 0))) (dBin (orD gSub (dOwn2 c.cRatio (padF 2 [] (F_RatioD_subD c)))) (dBin gIx (dVar 6) (dC (.int 1))) (dBin gIx (dVar 6) (dC (.int 0)))))) (dIfS (dNotT (dTst (dFun (padF 3 [] (F_has_bounds c)) (dCons (dVar 3) (dCons (dBin gIx (dVar 5) (dNegI (dC (.int 2)))) (dCons (dBin gIx (dVar 5) (dNegI (dC (.int 1)))) dNil)))))) (dRet (dC (.bl false))) dSkip)))
theorem B_Survey_is_fit_1_ap (c : Cs) (e : En) (m : Mu) : B_Survey_is_fit_1 c e m = (dSeq (dSet 6 (dComp (dItT (dSlT (dVar 5) (dPart (dC (.int 1))) (dPart (dNegI (dC (.int 2)))))) (dName 7) dYes (C_Survey_is_fit_3 c) [7])) (dSeq (dSet 3 (dIf (dTst (dBin gEq (dFun gLen (dCons (dVar 6) dNil)) (dC (.int 1)))) (dBin gIx (dVar 6) (dC (.int 0))) (dBin (orD gSub (dOwn2 c.cRatio (padF 2 [] (F_RatioD_subD c)))) (dBin gIx (dVar 6) (dC (.int 1))) (dBin gIx (dVar 6) (dC (.int 0)))))) (dIfS (dNotT (dTst (dFun (padF 3 [] (F_has_bounds c)) (dCons (dVar 3) (dCons (dBin gIx (dVar 5) (dNegI (dC (.int 2)))) (dCons (dBin gIx (dVar 5) (dNegI (dC (.int 1)))) dNil)))))) (dRet (dC (.bl false))) dSkip))) e m := rfl
noncomputable def F_Survey_is_fit (c : Cs) : DFn := dZap (dFn 8 (dSeq (dIfS (dOrT (dNotT (dTst (dFun (padF 1 [] (F_is_list c)) (dCons (dVar 1) dNil)))) (dTst (dBin gNe (dFun gLen (dCons (dVar 1) dNil)) (dFun gLen (dCons (dFld [(c.kSurvey, 0)] (dVar 0)) dNil))))) (dRet (dC (.bl false))) dSkip) (dSeq (dIfS (dNotT (dTst (dFun gAll (dCons (dComp (orA (dItL (dVar 1)) (orA (dItT (dVar 1)) (dItStr (dVar 1)))) (dName 2) dYes (C_Survey_is_fit_1 c) [2]) dNil)))) (dRet (dC (.bl false))) dSkip) (dSeq (dIfS (dNotT (dTst (dFun gAll (dCons (dComp2 (orA (dItL (dVar 1)) (orA (dItT (dVar 1)) (dItStr (dVar 1)))) (dName 2) dYes (J_Survey_is_fit_1 c) (dName 3) dYes (C_Survey_is_fit_2 c) [2, 3] [3]) dNil)))) (dRet (dC (.bl false))) dSkip) (dSeq (dSet 4 (dMeth [(c.kSurvey, padF 1 [] (F_Survey_names c))] (dVar 0) dNil)) (dSeq (dFor (dItL (dFld [(c.kSurvey, 1)] (dVar 0))) (dName 5) (B_Survey_is_fit_1 c)) (dRet (dC (.bl true)))))))))
noncomputable def GK_Survey_is_fit_0_times (c : Cs) : DFn := fun ds m => match pick [0, 1] (ds ++ []) with
  | some xs => F_Survey_is_fit c xs m
  | none => .stuck
noncomputable def F_w_like (c : Cs) : Nat → DFn
  | 0 => fun _ _ => .stuck
  | n + 1 => dFn 4 (dSeq (dIfS (dOrT (dTst (dBin gIsN (dVar 1) (dC .non))) (dTst (dBin gIsN (dVar 0) (dC .non)))) (dRet (dAnd (dBin gIsN (dVar 1) (dC .non)) (dBin gIsN (dVar 0) (dC .non)))) dSkip) (dSeq (dIfS (dTst (dIsi (ans_list_tuple c) (dVar 1))) (dSeq (dIfS (dOrT (dTst (dBin gNe (dIsi (ans_list c) (dVar 0)) (dIsi (ans_list c) (dVar 1)))) (dTst (dBin gNe (dIsi (ans_tuple c) (dVar 0)) (dIsi (ans_tuple c) (dVar 1))))) (dRet (dC (.bl false))) dSkip) (dRet (dAnd (dBin gEq (dFun gLen (dCons (dVar 0) dNil)) (dFun gLen (dCons (dVar 1) dNil))) (dFun gAll (dCons (dComp (dItZ (dCons (dVar 0) (dCons (dVar 1) dNil))) (dTupG 2 (dGcons (dName 2) (dGcons (dName 3) dGnil))) dYes (dFun (padF 2 [] (F_w_like c n)) (dCons (dVar 2) (dCons (dVar 3) dNil))) [2, 3]) dNil))))) dSkip) (dSeq (dIfS (dOrT (dTst (dBin gNe (dIsi (ans_bool c) (dVar 0)) (dIsi (ans_bool c) (dVar 1)))) (dTst (dBin gNe (dIsi (ans_int c) (dVar 0)) (dIsi (ans_int c) (dVar 1))))) (dRet (dC (.bl false))) dSkip) (dRet (dAnd (dBin gEq (dIsi (ans_str c) (dVar 0)) (dIsi (ans_str c) (dVar 1))) (dBin gEq (dVar 0) (dVar 1)))))))
noncomputable def C_law_1 (c : Cs) : DE := (dTup (dCons (dMake c.cRatio (padF 3 [] (F_RatioD_initD c)) (dCons (dVar 14) (dCons (dVar 3) dNil))) (dCons (dMake c.cRatio (padF 3 [] (F_RatioD_initD c)) (dCons (dVar 15) (dCons (dVar 3) dNil))) dNil)))
theorem C_law_1_ap (c : Cs) (e : En) (m : Mu) : C_law_1 c e m = (dTup (dCons (dMake c.cRatio (padF 3 [] (F_RatioD_initD c)) (dCons (dVar 14) (dCons (dVar 3) dNil))) (dCons (dMake c.cRatio (padF 3 [] (F_RatioD_initD c)) (dCons (dVar 15) (dCons (dVar 3) dNil))) dNil))) e m := rfl
noncomputable def B_law_1 (c : Cs) : DS := (dSeq (dPar 9 10 (dCons (dFun (padF 2 [] (F_w_take c)) (dCons (dVar 1) (dCons (dFun gLen (dCons (dVar 6) dNil)) dNil))) (dCons (dFun (padF 2 [] (F_w_one c)) (dCons (dVar 1) (dCons (dLst (dCons (dC (.int 0)) (dCons (dC (.int 1)) (dCons (dNegI (dC (.int 1))) (dCons (dC (.int 2)) (dCons (dNegI (dC (.int 2))) (dCons (dC (.int 3)) dNil))))))) dNil))) dNil))) (dSeq (dSet 11 (dIf (dTst (dBin gEq (dFun (padF 2 [] (F_w_take c)) (dCons (dVar 1) (dCons (dC (.int 2)) dNil))) (dC (.int 0)))) (dTup (dCons (dBin gAdd (dBin gIx (dBin gIx (dVar 6) (dVar 9)) (dC (.int 0))) (dVar 10)) (dCons (dBin gIx (dBin gIx (dVar 6) (dVar 9)) (dC (.int 1))) dNil))) (dTup (dCons (dBin gIx (dBin gIx (dVar 6) (dVar 9)) (dC (.int 0))) (dCons (dBin gAdd (dBin gIx (dBin gIx (dVar 6) (dVar 9)) (dC (.int 1))) (dVar 10)) dNil))))) (dSeq (dSet 12 (dBin gCat (dBin gCat (dSl (dVar 6) dNoPart (dPart (dVar 9))) (dLst (dCons (dVar 11) dNil))) (dSl (dVar 6) (dPart (dBin gAdd (dVar 9) (dC (.int 1)))) dNoPart))) (dSeq (dSet 13 (dComp (dItL (dVar 12)) (dTupG 2 (dGcons (dName 14) (dGcons (dName 15) dGnil))) dYes (C_law_1 c) [14, 15])) (dSeq (dSet 16 (dFun (padF 3 [] (F_w_is_fit c)) (dCons (dVar 4) (dCons (dVar 5) (dCons (dVar 12) dNil))))) (dSeq (dSet 17 (dFun gList (dCons (dVar 13) dNil))) (dIfS (dOrT (dNotT (dTst (dFun (padF 2 [] (F_w_like c 8)) (dCons (dLst (dCons (dMeth [(c.kSurvey, padF 2 [] (F_Survey_is_fit c))] (dVar 7) (dCons (dVar 13) dNil)) (dCons (dMethK [(c.kSurvey, GK_Survey_is_fit_0_times c)] 0 1 (dVar 7) dNil (dCons (dFun gTuple (dCons (dVar 13) dNil)) dNil)) (dCons (dMeth [(c.kSurvey, padF 2 [] (F_Survey_is_fit c))] (dVar 7) (dCons (dBin gCat (dVar 13) (dSl (dVar 13) dNoPart (dPart (dC (.int 1))))) dNil)) dNil)))) (dCons (dLst (dCons (dVar 16) (dCons (dVar 16) (dCons (dC (.bl false)) dNil)))) dNil))))) (dTst (dBin (gNeX [(c.kRatio, (padF 2 [] (F_RatioD_eqD c)), [(.own c.cRatio), (.prim "list"), (.prim "tuple")])] 5) (dVar 13) (dVar 17)))) (dRet (dC (.bl false))) dSkip)))))))
theorem B_law_1_ap (c : Cs) (e : En) (m : Mu) : B_law_1 c e m = (dSeq (dPar 9 10 (dCons (dFun (padF 2 [] (F_w_take c)) (dCons (dVar 1) (dCons (dFun gLen (dCons (dVar 6) dNil)) dNil))) (dCons (dFun (padF 2 [] (F_w_one c)) (dCons (dVar 1) (dCons (dLst (dCons (dC (.int 0)) (dCons (dC (.int 1)) (dCons (dNegI (dC (.int 1))) (dCons (dC (.int 2)) (dCons (dNegI (dC (.int 2))) (dCons (dC (.int 3)) dNil))))))) dNil))) dNil))) (dSeq (dSet 11 (dIf (dTst (dBin gEq (dFun (padF 2 [] (F_w_take c)) (dCons (dVar 1) (dCons (dC (.int 2)) dNil))) (dC (.int 0)))) (dTup (dCons (dBin gAdd (dBin gIx (dBin gIx (dVar 6) (dVar 9)) (dC (.int 0))) (dVar 10)) (dCons (dBin gIx (dBin gIx (dVar 6) (dVar 9)) (dC (.int 1))) dNil))) (dTup (dCons (dBin gIx (dBin gIx (dVar 6) (dVar 9)) (dC (.int 0))) (dCons (dBin gAdd (dBin gIx (dBin gIx (dVar 6) (dVar 9)) (dC (.int 1))) (dVar 10)) dNil))))) (dSeq (dSet 12 (dBin gCat (dBin gCat (dSl (dVar 6) dNoPart (dPart (dVar 9))) (dLst (dCons (dVar 11) dNil))) (dSl (dVar 6) (dPart (dBin gAdd (dVar 9) (dC (.int 1)))) dNoPart))) (dSeq (dSet 13 (dComp (dItL (dVar 12)) (dTupG 2 (dGcons (dName 14) (dGcons (dName 15) dGnil))) dYes (C_law_1 c) [14, 15])) (dSeq (dSet 16 (dFun (padF 3 [] (F_w_is_fit c)) (dCons (dVar 4) (dCons (dVar 5) (dCons (dVar 12) dNil))))) (dSeq (dSet 17 (dFun gList (dCons (dVar 13) dNil))) (dIfS (dOrT (dNotT (dTst (dFun (padF 2 [] (F_w_like c 8)) (dCons (dLst (dCons (dMeth [(c.kSurvey, padF 2 [] (F_Survey_is_fit c))] (dVar 7) (dCons (dVar 13) dNil)) (dCons (dMethK [(c.kSurvey, GK_Survey_is_fit_0_times c)] 0 1 (dVar 7) dNil (dCons (dFun gTuple (dCons (dVar 13) dNil)) dNil)) (dCons (dMeth [(c.kSurvey, padF 2 [] (F_Survey_is_fit c))] (dVar 7) (dCons (dBin gCat (dVar 13) (dSl (dVar 13) dNoPart (dPart (dC (.int 1))))) dNil)) dNil)))) (dCons (dLst (dCons (dVar 16) (dCons (dVar 16) (dCons (dC (.bl false)) dNil)))) dNil))))) (dTst (dBin (gNeX [(c.kRatio, (padF 2 [] (F_RatioD_eqD c)), [(.own c.cRatio), (.prim "list"), (.prim "tuple")])] 5) (dVar 13) (dVar 17)))) (dRet (dC (.bl false))) dSkip))))))) e m := rfl
noncomputable def C_law_2 (c : Cs) : DE := (dTup (dCons (dMake c.cRatio (padF 3 [] (F_RatioD_initD c)) (dCons (dVar 14) (dCons (dVar 3) dNil))) (dCons (dMake c.cRatio (padF 3 [] (F_RatioD_initD c)) (dCons (dVar 15) (dCons (dVar 3) dNil))) dNil)))
theorem C_law_2_ap (c : Cs) (e : En) (m : Mu) : C_law_2 c e m = (dTup (dCons (dMake c.cRatio (padF 3 [] (F_RatioD_initD c)) (dCons (dVar 14) (dCons (dVar 3) dNil))) (dCons (dMake c.cRatio (padF 3 [] (F_RatioD_initD c)) (dCons (dVar 15) (dCons (dVar 3) dNil))) dNil))) e m := rfl
noncomputable def C_law_3 (c : Cs) : DE := (dTup (dCons (dBin gIx (dVar 11) (dC (.int 0))) (dCons (dBin gIx (dVar 11) (dC (.int 1))) (dCons (dBin gIx (dVar 11) (dC (.int 0))) dNil))))
theorem C_law_3_ap (c : Cs) (e : En) (m : Mu) : C_law_3 c e m = (dTup (dCons (dBin gIx (dVar 11) (dC (.int 0))) (dCons (dBin gIx (dVar 11) (dC (.int 1))) (dCons (dBin gIx (dVar 11) (dC (.int 0))) dNil)))) e m := rfl
noncomputable def C_law_4 (c : Cs) : DE := (dTup (dCons (dBin gIx (dVar 11) (dC (.int 0))) (dCons (dC .non) dNil)))
theorem C_law_4_ap (c : Cs) (e : En) (m : Mu) : C_law_4 c e m = (dTup (dCons (dBin gIx (dVar 11) (dC (.int 0))) (dCons (dC .non) dNil))) e m := rfl
noncomputable def B_law_2 (c : Cs) : DS := (dSeq (dSet 3 (dFun (padF 1 [] (F_w_steps c)) (dCons (dVar 1) dNil))) (dSeq (dSet 4 (dFun (padF 2 [] (F_w_names c)) (dCons (dVar 1) (dCons (dBin gAdd (dC (.int 1)) (dFun (padF 2 [] (F_w_take c)) (dCons (dVar 1) (dCons (dC (.int 4)) dNil)))) dNil)))) (dSeq (dAsg (dFun (padF 3 [] (F_w_facts c)) (dCons (dVar 1) (dCons (dVar 4) (dCons (dVar 3) dNil)))) (dTupG 2 (dGcons (dName 5) (dGcons (dName 6) dGnil)))) (dSeq (dSet 7 (dFun (padF 3 [] (F_w_survey c)) (dCons (dFun (padF 3 [] (F_w_shares c)) (dCons (dVar 1) (dCons (dVar 4) (dCons (dVar 3) dNil)))) (dCons (dVar 5) (dCons (dVar 3) dNil))))) (dSeq (dFor (dItR1 (dCons (dC (.int 5)) dNil)) (dName 8) (B_law_1 c)) (dSeq (dSet 18 (dComp (dItL (dVar 6)) (dTupG 2 (dGcons (dName 14) (dGcons (dName 15) dGnil))) dYes (C_law_2 c) [14, 15])) (dSeq (dSet 19 (dFun (padF 2 [] (F_w_one c)) (dCons (dVar 1) (dCons (dLst (dCons (dC .non) (dCons (dC (.int 3)) (dCons (dC (.str "ab")) (dCons (dSl (dVar 18) (dPart (dC (.int 1))) dNoPart) (dCons (dComp (dItL (dVar 18)) (dName 11) dYes (dFun gList (dCons (dVar 11) dNil)) [11]) (dCons (dComp (dItL (dVar 18)) (dName 11) dYes (C_law_4 c) [11]) (dCons (dVar 6) (dCons (dComp (dItL (dVar 18)) (dName 11) dYes (C_law_3 c) [11]) (dCons (dComp (dItL (dVar 18)) (dName 11) dYes (dBin gIx (dVar 11) (dC (.int 0))) [11]) dNil)))))))))) dNil)))) (dIfS (dNotT (dTst (dFun (padF 2 [] (F_w_like c 8)) (dCons (dLst (dCons (dMeth [(c.kSurvey, padF 2 [] (F_Survey_is_fit c))] (dVar 7) (dCons (dVar 18) dNil)) (dCons (dMeth [(c.kSurvey, padF 2 [] (F_Survey_is_fit c))] (dVar 7) (dCons (dVar 19) dNil)) dNil))) (dCons (dLst (dCons (dC (.bl true)) (dCons (dC (.bl false)) dNil))) dNil))))) (dRet (dC (.bl false))) dSkip))))))))
theorem B_law_2_ap (c : Cs) (e : En) (m : Mu) : B_law_2 c e m = (dSeq (dSet 3 (dFun (padF 1 [] (F_w_steps c)) (dCons (dVar 1) dNil))) (dSeq (dSet 4 (dFun (padF 2 [] (F_w_names c)) (dCons (dVar 1) (dCons (dBin gAdd (dC (.int 1)) (dFun (padF 2 [] (F_w_take c)) (dCons (dVar 1) (dCons (dC (.int 4)) dNil)))) dNil)))) (dSeq (dAsg (dFun (padF 3 [] (F_w_facts c)) (dCons (dVar 1) (dCons (dVar 4) (dCons (dVar 3) dNil)))) (dTupG 2 (dGcons (dName 5) (dGcons (dName 6) dGnil)))) (dSeq (dSet 7 (dFun (padF 3 [] (F_w_survey c)) (dCons (dFun (padF 3 [] (F_w_shares c)) (dCons (dVar 1) (dCons (dVar 4) (dCons (dVar 3) dNil)))) (dCons (dVar 5) (dCons (dVar 3) dNil))))) (dSeq (dFor (dItR1 (dCons (dC (.int 5)) dNil)) (dName 8) (B_law_1 c)) (dSeq (dSet 18 (dComp (dItL (dVar 6)) (dTupG 2 (dGcons (dName 14) (dGcons (dName 15) dGnil))) dYes (C_law_2 c) [14, 15])) (dSeq (dSet 19 (dFun (padF 2 [] (F_w_one c)) (dCons (dVar 1) (dCons (dLst (dCons (dC .non) (dCons (dC (.int 3)) (dCons (dC (.str "ab")) (dCons (dSl (dVar 18) (dPart (dC (.int 1))) dNoPart) (dCons (dComp (dItL (dVar 18)) (dName 11) dYes (dFun gList (dCons (dVar 11) dNil)) [11]) (dCons (dComp (dItL (dVar 18)) (dName 11) dYes (C_law_4 c) [11]) (dCons (dVar 6) (dCons (dComp (dItL (dVar 18)) (dName 11) dYes (C_law_3 c) [11]) (dCons (dComp (dItL (dVar 18)) (dName 11) dYes (dBin gIx (dVar 11) (dC (.int 0))) [11]) dNil)))))))))) dNil)))) (dIfS (dNotT (dTst (dFun (padF 2 [] (F_w_like c 8)) (dCons (dLst (dCons (dMeth [(c.kSurvey, padF 2 [] (F_Survey_is_fit c))] (dVar 7) (dCons (dVar 18) dNil)) (dCons (dMeth [(c.kSurvey, padF 2 [] (F_Survey_is_fit c))] (dVar 7) (dCons (dVar 19) dNil)) dNil))) (dCons (dLst (dCons (dC (.bl true)) (dCons (dC (.bl false)) dNil))) dNil))))) (dRet (dC (.bl false))) dSkip)))))))) e m := rfl
noncomputable def F_law (c : Cs) : DFn := dFn 20 (dSeq (dSet 1 (dFun (padF 1 [] (F_w_begin c)) (dCons (dVar 0) dNil))) (dSeq (dFor (dItR1 (dCons (dC (.int 3)) dNil)) (dName 2) (B_law_2 c)) (dRet (dC (.bl true)))))
end W

set_option maxHeartbeats 0
namespace W
open PySem PySem.Spec L2 DL
theorem sc_w_begin : FnScope ["_law_script"] ["_law_script"] (defScope s_w_begin) := ⟨rfl, rfl, rfl, by decide +kernel, rfl, by decide +kernel, by decide +kernel⟩
theorem sc_w_take : FnScope ["_law_bag", "_law_many", "_law_cell", "_law_digit", "_law_old"] ["_law_bag", "_law_many"] (defScope s_w_take) := ⟨rfl, rfl, rfl, by decide +kernel, rfl, by decide +kernel, by decide +kernel⟩
theorem sc_w_one : FnScope ["_law_bag", "_law_row"] ["_law_bag", "_law_row"] (defScope s_w_one) := ⟨rfl, rfl, rfl, by decide +kernel, rfl, by decide +kernel, by decide +kernel⟩
theorem sc_w_steps : FnScope ["_law_bag"] ["_law_bag"] (defScope s_w_steps) := ⟨rfl, rfl, rfl, by decide +kernel, rfl, by decide +kernel, by decide +kernel⟩
theorem sc_w_names : FnScope ["_law_bag", "_law_many", "_law_letters", "_law_stem", "_law_k", "_law_at", "_law_first"] ["_law_bag", "_law_many"] (defScope s_w_names) := ⟨rfl, rfl, rfl, by decide +kernel, rfl, by decide +kernel, by decide +kernel⟩
theorem sc_w_mixed : FnScope ["_law_bag", "_law_row", "_law_found", "_law_item"] ["_law_bag", "_law_row"] (defScope s_w_mixed) := ⟨rfl, rfl, rfl, by decide +kernel, rfl, by decide +kernel, by decide +kernel⟩
theorem sc_w_facts : FnScope ["_law_bag", "_law_names_here", "_law_parts", "_law_times_z", "_law_name", "_law_facts_here", "_law_way", "_law_at", "_law_time", "_law_k", "_law_one_here", "_law_other", "_law_low", "_law_high"] ["_law_bag", "_law_names_here", "_law_parts"] (defScope s_w_facts) := ⟨rfl, rfl, rfl, by decide +kernel, rfl, by decide +kernel, by decide +kernel⟩
theorem sc_w_shares : FnScope ["_law_bag", "_law_names_here", "_law_parts", "_law_name"] ["_law_bag", "_law_names_here", "_law_parts"] (defScope s_w_shares) := ⟨rfl, rfl, rfl, by decide +kernel, rfl, by decide +kernel, by decide +kernel⟩
theorem sc_is_list : FnScope ["value"] ["value"] (defScope s_is_list) := ⟨rfl, rfl, rfl, by decide +kernel, rfl, by decide +kernel, by decide +kernel⟩
theorem sc_is_name : FnScope ["value", "sign"] ["value"] (defScope s_is_name) := ⟨rfl, rfl, rfl, by decide +kernel, rfl, by decide +kernel, by decide +kernel⟩
theorem sc_is_whole : FnScope ["value"] ["value"] (defScope s_is_whole) := ⟨rfl, rfl, rfl, by decide +kernel, rfl, by decide +kernel, by decide +kernel⟩
theorem sc_common_divisor : FnScope ["one", "other"] ["one", "other"] (defScope s_common_divisor) := ⟨rfl, rfl, rfl, by decide +kernel, rfl, by decide +kernel, by decide +kernel⟩
theorem sc_RatioD_initD : FnScope ["self", "top", "bottom", "divisor"] ["self", "top", "bottom"] (defScope s_RatioD_initD) := ⟨rfl, rfl, rfl, by decide +kernel, rfl, by decide +kernel, by decide +kernel⟩
theorem sc_Ratio_bottom : FnScope ["self"] ["self"] (defScope s_Ratio_bottom) := ⟨rfl, rfl, rfl, by decide +kernel, rfl, by decide +kernel, by decide +kernel⟩
theorem sc_Ratio_top : FnScope ["self"] ["self"] (defScope s_Ratio_top) := ⟨rfl, rfl, rfl, by decide +kernel, rfl, by decide +kernel, by decide +kernel⟩
theorem sc_Ratio_is_below : FnScope ["self", "other"] ["self", "other"] (defScope s_Ratio_is_below) := ⟨rfl, rfl, rfl, by decide +kernel, rfl, by decide +kernel, by decide +kernel⟩
theorem sc_is_between : FnScope ["value", "low", "high"] ["value", "low", "high"] (defScope s_is_between) := ⟨rfl, rfl, rfl, by decide +kernel, rfl, by decide +kernel, by decide +kernel⟩
theorem sc_RatioD_boolD : FnScope ["self"] ["self"] (defScope s_RatioD_boolD) := ⟨rfl, rfl, rfl, by decide +kernel, rfl, by decide +kernel, by decide +kernel⟩
theorem sc_RatioD_eqD : FnScope ["self", "other"] ["self", "other"] (defScope s_RatioD_eqD) := ⟨rfl, rfl, rfl, by decide +kernel, rfl, by decide +kernel, by decide +kernel⟩
theorem sc_need_share : FnScope ["value"] ["value"] (defScope s_need_share) := ⟨rfl, rfl, rfl, by decide +kernel, rfl, by decide +kernel, by decide +kernel⟩
theorem sc_is_ratio : FnScope ["value"] ["value"] (defScope s_is_ratio) := ⟨rfl, rfl, rfl, by decide +kernel, rfl, by decide +kernel, by decide +kernel⟩
theorem sc_is_fact : FnScope ["value", "names", "held", "name", "low", "high", "bound"] ["value", "names"] (defScope s_is_fact) := ⟨rfl, rfl, rfl, by decide +kernel, rfl, by decide +kernel, by decide +kernel⟩
theorem sc_RatioD_negD : FnScope ["self"] ["self"] (defScope s_RatioD_negD) := ⟨rfl, rfl, rfl, by decide +kernel, rfl, by decide +kernel, by decide +kernel⟩
theorem sc_bounds_of : FnScope ["kind", "facts", "names", "found", "at", "fact", "spots", "name", "one", "other"] ["kind", "facts", "names"] (defScope s_bounds_of) := ⟨rfl, rfl, rfl, by decide +kernel, rfl, by decide +kernel, by decide +kernel⟩
theorem sc_RatioD_addD : FnScope ["self", "other"] ["self", "other"] (defScope s_RatioD_addD) := ⟨rfl, rfl, rfl, by decide +kernel, rfl, by decide +kernel, by decide +kernel⟩
theorem sc_closed_bounds : FnScope ["kind", "facts", "names", "many", "table", "other", "one", "most", "middle", "front", "behind", "at"] ["kind", "facts", "names"] (defScope s_closed_bounds) := ⟨rfl, rfl, rfl, by decide +kernel, rfl, by decide +kernel, by decide +kernel⟩
theorem sc_SurveyD_initD : FnScope ["self", "shares", "facts", "pair", "names", "name", "share", "at", "fact", "kind"] ["self", "shares", "facts"] (defScope s_SurveyD_initD) := ⟨rfl, rfl, rfl, by decide +kernel, rfl, by decide +kernel, by decide +kernel⟩
theorem sc_w_fact : FnScope ["_law_fact_here", "_law_parts", "_law_kind", "_law_held", "_law_low", "_law_high", "_law_bounds", "_law_bound"] ["_law_fact_here", "_law_parts"] (defScope s_w_fact) := ⟨rfl, rfl, rfl, by decide +kernel, rfl, by decide +kernel, by decide +kernel⟩
theorem sc_w_survey : FnScope ["_law_rows", "_law_facts_here", "_law_parts", "_law_name", "_law_share", "_law_fact_here"] ["_law_rows", "_law_facts_here", "_law_parts"] (defScope s_w_survey) := ⟨rfl, rfl, rfl, by decide +kernel, rfl, by decide +kernel, by decide +kernel⟩
theorem sc_RatioD_subD : FnScope ["self", "other"] ["self", "other"] (defScope s_RatioD_subD) := ⟨rfl, rfl, rfl, by decide +kernel, rfl, by decide +kernel, by decide +kernel⟩
theorem sc_w_is_fit : FnScope ["_law_names_here", "_law_facts_here", "_law_times_z", "_law_kind", "_law_held", "_law_low", "_law_high", "_law_some", "_law_name", "_law_time", "_law_pair"] ["_law_names_here", "_law_facts_here", "_law_times_z"] (defScope s_w_is_fit) := ⟨rfl, rfl, rfl, by decide +kernel, rfl, by decide +kernel, by decide +kernel⟩
theorem sc_Survey_names : FnScope ["self", "name", "share"] ["self"] (defScope s_Survey_names) := ⟨rfl, rfl, rfl, by decide +kernel, rfl, by decide +kernel, by decide +kernel⟩
theorem sc_has_bounds : FnScope ["value", "low", "high"] ["value", "low", "high"] (defScope s_has_bounds) := ⟨rfl, rfl, rfl, by decide +kernel, rfl, by decide +kernel, by decide +kernel⟩
theorem sc_Survey_is_fit : FnScope ["self", "times", "pair", "time", "names", "fact", "held", "name"] ["self", "times"] (defScope s_Survey_is_fit) := ⟨rfl, rfl, rfl, by decide +kernel, rfl, by decide +kernel, by decide +kernel⟩
theorem sc_w_like : FnScope ["_law_found", "_law_due", "_law_one_here", "_law_two"] ["_law_found", "_law_due"] (defScope s_w_like) := ⟨rfl, rfl, rfl, by decide +kernel, rfl, by decide +kernel, by decide +kernel⟩
theorem sc_law : FnScope ["_law_script", "_law_bag", "_law_turn", "_law_parts", "_law_names_here", "_law_facts_here", "_law_times_z", "_law_made", "_law_look", "_law_at", "_law_by", "_law_pair", "_law_some", "_law_handed", "_law_out", "_law_back", "_law_due", "_law_kept", "_law_good", "_law_odd"] ["_law_script"] (defScope s_law) := ⟨rfl, rfl, rfl, by decide +kernel, rfl, by decide +kernel, by decide +kernel⟩
structure Txt (K : PySem.W.Frag) (mg : Str → Option Value) (c : Cs) : Prop where
  fn_w_begin : ∃ (f : Addr) (fd : FuncData), mg "_law_begin" = some (.ref f) ∧ FunD K "_law_begin" "_law_begin" (defArgs s_w_begin) (defBody s_w_begin) (defScope s_w_begin) [] [] f fd
  fn_w_take : ∃ (f : Addr) (fd : FuncData), mg "_law_take" = some (.ref f) ∧ FunD K "_law_take" "_law_take" (defArgs s_w_take) (defBody s_w_take) (defScope s_w_take) [] [] f fd
  fn_w_one : ∃ (f : Addr) (fd : FuncData), mg "_law_one" = some (.ref f) ∧ FunD K "_law_one" "_law_one" (defArgs s_w_one) (defBody s_w_one) (defScope s_w_one) [] [] f fd
  fn_w_steps : ∃ (f : Addr) (fd : FuncData), mg "_law_steps" = some (.ref f) ∧ FunD K "_law_steps" "_law_steps" (defArgs s_w_steps) (defBody s_w_steps) (defScope s_w_steps) [] [] f fd
  fn_w_names : ∃ (f : Addr) (fd : FuncData), mg "_law_names" = some (.ref f) ∧ FunD K "_law_names" "_law_names" (defArgs s_w_names) (defBody s_w_names) (defScope s_w_names) [] [] f fd
  fn_w_mixed : ∃ (f : Addr) (fd : FuncData), mg "_law_mixed" = some (.ref f) ∧ FunD K "_law_mixed" "_law_mixed" (defArgs s_w_mixed) (defBody s_w_mixed) (defScope s_w_mixed) [] [] f fd
  fn_w_facts : ∃ (f : Addr) (fd : FuncData), mg "_law_facts" = some (.ref f) ∧ FunD K "_law_facts" "_law_facts" (defArgs s_w_facts) (defBody s_w_facts) (defScope s_w_facts) [] [] f fd
  fn_w_shares : ∃ (f : Addr) (fd : FuncData), mg "_law_shares" = some (.ref f) ∧ FunD K "_law_shares" "_law_shares" (defArgs s_w_shares) (defBody s_w_shares) (defScope s_w_shares) [] [] f fd
  fn_is_list : ∃ (f : Addr) (fd : FuncData), mg "is_list" = some (.ref f) ∧ FunD K "is_list" "is_list" (defArgs s_is_list) (defBody s_is_list) (defScope s_is_list) [] [] f fd
  fn_is_name : ∃ (f : Addr) (fd : FuncData), mg "is_name" = some (.ref f) ∧ FunD K "is_name" "is_name" (defArgs s_is_name) (defBody s_is_name) (defScope s_is_name) [] [] f fd
  fn_is_whole : ∃ (f : Addr) (fd : FuncData), mg "is_whole" = some (.ref f) ∧ FunD K "is_whole" "is_whole" (defArgs s_is_whole) (defBody s_is_whole) (defScope s_is_whole) [] [] f fd
  fn_common_divisor : ∃ (f : Addr) (fd : FuncData), mg "common_divisor" = some (.ref f) ∧ FunD K "common_divisor" "common_divisor" (defArgs s_common_divisor) (defBody s_common_divisor) (defScope s_common_divisor) [] [] f fd
  me_RatioD_initD : ∃ (f : Addr) (fd : FuncData), PySem.W.findIn K (.ref c.cRatio) "__init__" = some (some (.ref f)) ∧ PySem.W.isFn K (.ref f) = true ∧ FunD K "__init__" "Ratio.__init__" (defArgs s_RatioD_initD) (defBody s_RatioD_initD) (defScope s_RatioD_initD) [.int 1] [] f fd
  pr_Ratio_bottom : ∃ (pp g : Addr) (fd : FuncData), PropOf K c.cRatio "bottom" pp g ∧ FunD K "bottom" "Ratio.bottom" (defArgs s_Ratio_bottom) (defBody s_Ratio_bottom) (defScope s_Ratio_bottom) [] [] g fd
  pr_Ratio_top : ∃ (pp g : Addr) (fd : FuncData), PropOf K c.cRatio "top" pp g ∧ FunD K "top" "Ratio.top" (defArgs s_Ratio_top) (defBody s_Ratio_top) (defScope s_Ratio_top) [] [] g fd
  me_Ratio_is_below : ∃ (f : Addr) (fd : FuncData), PySem.W.findIn K (.ref c.cRatio) "is_below" = some (some (.ref f)) ∧ PySem.W.isFn K (.ref f) = true ∧ FunD K "is_below" "Ratio.is_below" (defArgs s_Ratio_is_below) (defBody s_Ratio_is_below) (defScope s_Ratio_is_below) [] [] f fd
  fn_is_between : ∃ (f : Addr) (fd : FuncData), mg "is_between" = some (.ref f) ∧ FunD K "is_between" "is_between" (defArgs s_is_between) (defBody s_is_between) (defScope s_is_between) [] [] f fd
  me_RatioD_boolD : ∃ (f : Addr) (fd : FuncData), PySem.W.findIn K (.ref c.cRatio) "__bool__" = some (some (.ref f)) ∧ PySem.W.isFn K (.ref f) = true ∧ FunD K "__bool__" "Ratio.__bool__" (defArgs s_RatioD_boolD) (defBody s_RatioD_boolD) (defScope s_RatioD_boolD) [] [] f fd
  me_RatioD_eqD : ∃ (f : Addr) (fd : FuncData), PySem.W.findIn K (.ref c.cRatio) "__eq__" = some (some (.ref f)) ∧ PySem.W.isFn K (.ref f) = true ∧ FunD K "__eq__" "Ratio.__eq__" (defArgs s_RatioD_eqD) (defBody s_RatioD_eqD) (defScope s_RatioD_eqD) [] [] f fd
  fn_need_share : ∃ (f : Addr) (fd : FuncData), mg "need_share" = some (.ref f) ∧ FunD K "need_share" "need_share" (defArgs s_need_share) (defBody s_need_share) (defScope s_need_share) [] [] f fd
  fn_is_ratio : ∃ (f : Addr) (fd : FuncData), mg "is_ratio" = some (.ref f) ∧ FunD K "is_ratio" "is_ratio" (defArgs s_is_ratio) (defBody s_is_ratio) (defScope s_is_ratio) [] [] f fd
  fn_is_fact : ∃ (f : Addr) (fd : FuncData), mg "is_fact" = some (.ref f) ∧ FunD K "is_fact" "is_fact" (defArgs s_is_fact) (defBody s_is_fact) (defScope s_is_fact) [] [] f fd
  me_RatioD_negD : ∃ (f : Addr) (fd : FuncData), PySem.W.findIn K (.ref c.cRatio) "__neg__" = some (some (.ref f)) ∧ PySem.W.isFn K (.ref f) = true ∧ FunD K "__neg__" "Ratio.__neg__" (defArgs s_RatioD_negD) (defBody s_RatioD_negD) (defScope s_RatioD_negD) [] [] f fd
  fn_bounds_of : ∃ (f : Addr) (fd : FuncData), mg "bounds_of" = some (.ref f) ∧ FunD K "bounds_of" "bounds_of" (defArgs s_bounds_of) (defBody s_bounds_of) (defScope s_bounds_of) [] [] f fd
  me_RatioD_addD : ∃ (f : Addr) (fd : FuncData), PySem.W.findIn K (.ref c.cRatio) "__add__" = some (some (.ref f)) ∧ PySem.W.isFn K (.ref f) = true ∧ FunD K "__add__" "Ratio.__add__" (defArgs s_RatioD_addD) (defBody s_RatioD_addD) (defScope s_RatioD_addD) [] [] f fd
  fn_closed_bounds : ∃ (f : Addr) (fd : FuncData), mg "closed_bounds" = some (.ref f) ∧ FunD K "closed_bounds" "closed_bounds" (defArgs s_closed_bounds) (defBody s_closed_bounds) (defScope s_closed_bounds) [] [] f fd
  me_SurveyD_initD : ∃ (f : Addr) (fd : FuncData), PySem.W.findIn K (.ref c.cSurvey) "__init__" = some (some (.ref f)) ∧ PySem.W.isFn K (.ref f) = true ∧ FunD K "__init__" "Survey.__init__" (defArgs s_SurveyD_initD) (defBody s_SurveyD_initD) (defScope s_SurveyD_initD) [.ref c.e_SurveyD_initD] [] f fd
  fn_w_fact : ∃ (f : Addr) (fd : FuncData), mg "_law_fact" = some (.ref f) ∧ FunD K "_law_fact" "_law_fact" (defArgs s_w_fact) (defBody s_w_fact) (defScope s_w_fact) [] [] f fd
  fn_w_survey : ∃ (f : Addr) (fd : FuncData), mg "_law_survey" = some (.ref f) ∧ FunD K "_law_survey" "_law_survey" (defArgs s_w_survey) (defBody s_w_survey) (defScope s_w_survey) [] [] f fd
  me_RatioD_subD : ∃ (f : Addr) (fd : FuncData), PySem.W.findIn K (.ref c.cRatio) "__sub__" = some (some (.ref f)) ∧ PySem.W.isFn K (.ref f) = true ∧ FunD K "__sub__" "Ratio.__sub__" (defArgs s_RatioD_subD) (defBody s_RatioD_subD) (defScope s_RatioD_subD) [] [] f fd
  fn_w_is_fit : ∃ (f : Addr) (fd : FuncData), mg "_law_is_fit" = some (.ref f) ∧ FunD K "_law_is_fit" "_law_is_fit" (defArgs s_w_is_fit) (defBody s_w_is_fit) (defScope s_w_is_fit) [] [] f fd
  me_Survey_names : ∃ (f : Addr) (fd : FuncData), PySem.W.findIn K (.ref c.cSurvey) "names" = some (some (.ref f)) ∧ PySem.W.isFn K (.ref f) = true ∧ FunD K "names" "Survey.names" (defArgs s_Survey_names) (defBody s_Survey_names) (defScope s_Survey_names) [] [] f fd
  fn_has_bounds : ∃ (f : Addr) (fd : FuncData), mg "has_bounds" = some (.ref f) ∧ FunD K "has_bounds" "has_bounds" (defArgs s_has_bounds) (defBody s_has_bounds) (defScope s_has_bounds) [] [] f fd
  me_Survey_is_fit : ∃ (f : Addr) (fd : FuncData), PySem.W.findIn K (.ref c.cSurvey) "is_fit" = some (some (.ref f)) ∧ PySem.W.isFn K (.ref f) = true ∧ FunD K "is_fit" "Survey.is_fit" (defArgs s_Survey_is_fit) (defBody s_Survey_is_fit) (defScope s_Survey_is_fit) [] [] f fd
  fn_w_like : ∃ (f : Addr) (fd : FuncData), mg "_law_like" = some (.ref f) ∧ FunD K "_law_like" "_law_like" (defArgs s_w_like) (defBody s_w_like) (defScope s_w_like) [] [] f fd
  fn_law : ∃ (f : Addr) (fd : FuncData), mg "law" = some (.ref f) ∧ FunD K "law" "law" (defArgs s_law) (defBody s_law) (defScope s_law) [] [] f fd
  b_abs : mg "abs" = none
  b_all : mg "all" = none
  b_any : mg "any" = none
  b_bool : mg "bool" = none
  b_enumerate : mg "enumerate" = none
  b_int : mg "int" = none
  b_isinstance : mg "isinstance" = none
  b_len : mg "len" = none
  b_list : mg "list" = none
  b_range : mg "range" = none
  b_str : mg "str" = none
  b_tuple : mg "tuple" = none
  b_zip : mg "zip" = none
  g_KINDS : ∃ a, mg "KINDS" = some (.ref a) ∧ KTx K a [.str "out", .str "back"]
  g_LETTERS : ∃ t, mg "LETTERS" = some (.str "abcdefghijklmnopqrstuvwxyz" t)
  g_LONGEST_NAME : ∃ t, mg "LONGEST_NAME" = some (.int 8 t)
  g_MOST_LIGHTS : ∃ t, mg "MOST_LIGHTS" = some (.int 12 t)
  em_SurveyD_initD : KTx K c.e_SurveyD_initD []
  cl_Ratio : Cls K c.cRatio
  gc_Ratio : mg "Ratio" = some (.ref c.cRatio)
  cl_Survey : Cls K c.cSurvey
  gc_Survey : mg "Survey" = some (.ref c.cSurvey)
  mk_Ratio : PySem.W.makesIn K c.cRatio = true ∧ PySem.W.keepIn K (.ref c.cRatio) = true
  mk_Survey : PySem.W.makesIn K c.cSurvey = true ∧ PySem.W.keepIn K (.ref c.cSurvey) = true
  sf_Ratio : PySem.W.selfFirst K c.cRatio = true
  fl_Ratio_own_bottom : FldOk K "own_bottom" c.kRatio 1
  fl_Ratio_own_top : FldOk K "own_top" c.kRatio 0
  fl_Survey_own_facts : FldOk K "own_facts" c.kSurvey 1
  fl_Survey_own_shares : FldOk K "own_shares" c.kSurvey 0
  fl_Survey_tables : FldOk K "tables" c.kSurvey 2
  in_Ratio : InsK K c.cRatio
  nf_Ratio_ownccRatio : PySem.W.notFirst K c.cRatio (Tg.val (.own c.cRatio)) = true
  nf_Ratio_primNoneType : PySem.W.notFirst K c.cRatio (Tg.val (.prim "NoneType")) = true
  nf_Ratio_primlist : PySem.W.notFirst K c.cRatio (Tg.val (.prim "list")) = true
  nf_Ratio_primstr : PySem.W.notFirst K c.cRatio (Tg.val (.prim "str")) = true
  nf_Ratio_primtuple : PySem.W.notFirst K c.cRatio (Tg.val (.prim "tuple")) = true
  ans_Ratio__Ratio : AnsOk K (ans_Ratio__Ratio c) [.ref c.cRatio]
  ans_bool : AnsOk K (ans_bool c) [.type "bool"]
  ans_bool__Ratio : AnsOk K (ans_bool__Ratio c) [.type "bool"]
  ans_int : AnsOk K (ans_int c) [.type "int"]
  ans_int__Ratio : AnsOk K (ans_int__Ratio c) [.type "int"]
  ans_list : AnsOk K (ans_list c) [.type "list"]
  ans_list_tuple : AnsOk K (ans_list_tuple c) [.type "list", .type "tuple"]
  ans_str : AnsOk K (ans_str c) [.type "str"]
  ans_str__Ratio : AnsOk K (ans_str__Ratio c) [.type "str"]
  ans_tuple : AnsOk K (ans_tuple c) [.type "tuple"]
  ans_tuple__Ratio : AnsOk K (ans_tuple__Ratio c) [.type "tuple"]
section
variable {P : Program} {w : World} {K : PySem.W.Frag} {mg : Str → Option Value} {base : Heap} {c : Cs}
theorem ok_w_begin (T : Txt K mg c) {f : Addr} {fd : FuncData} (FD : FunD K "_law_begin" "_law_begin" (defArgs s_w_begin) (defBody s_w_begin) (defScope s_w_begin) [] [] f fd) : FnD P w K mg base 1 f fd ["_law_script"] (F_w_begin c) := fnD_of (N := ["_law_script"]) FD sc_w_begin (fun cdv A outer s H E hr => by
    refine pds_one ?_
    refine pds_ret ?_
    refine pd_loc ?_
    refine pda_c ?_ ?_
    refine pd_bt oc_list T.b_list (by decide +kernel) ?_
    refine pda_c ?_ pda_nil
    refine pd_sl ?_ pdo_none ?_
    exact (pd_var 0)
    exact (pdo_some pd_int)
    refine pda_int ?_
    refine pda_int ?_
    refine pda_c ?_ pda_nil
    refine pd_op od_add pd_int ?_
    refine pd_op od_mul pd_int ?_
    refine pd_bc oc_len T.b_len (by decide +kernel) ?_
    refine pda_c ?_ pda_nil
    refine pd_sl ?_ pdo_none ?_
    exact (pd_var 0)
    exact (pdo_some pd_int))
theorem ft_w_begin_1 (T : Txt K mg c) : FT P w K mg base 1 "_law_begin" (padF 1 [] (F_w_begin c)) := by
  obtain ⟨f, fd, hm, FD⟩ := T.fn_w_begin
  exact ⟨f, fd, _, _, _, hm, FD.kp, ok_w_begin T FD, (Bd.nil (FD.bindsN (fun _ _ _ _ _ _ us hl => match us, hl with | [_], _ => rfl))), rfl⟩
theorem ok_w_take (T : Txt K mg c) {f : Addr} {fd : FuncData} (FD : FunD K "_law_take" "_law_take" (defArgs s_w_take) (defBody s_w_take) (defScope s_w_take) [] [] f fd) : FnD P w K mg base 2 f fd ["_law_bag", "_law_many"] (F_w_take c) := fnD_of (N := ["_law_bag", "_law_many", "_law_cell", "_law_digit", "_law_old"]) FD sc_w_take (fun cdv A outer s H E hr => by
    refine pds_cons ?_ ?_
    refine pds_if ?_ ?_ pds_nil
    refine PDW.pt ?_
    refine pdw_and ?_ ?_
    refine pdt_cmp (od_eq hr.units) ?_ pd_int
    refine pd_ix ?_ pd_int
    exact (pd_var 0)
    refine pdw_and1 ?_
    refine pdt_cmp od_lt ?_ ?_
    refine pd_ix ?_ pd_int
    exact (pd_var 0)
    refine pd_bc oc_len T.b_len (by decide +kernel) ?_
    refine pda_c ?_ pda_nil
    refine pd_ix ?_ pd_int
    exact (pd_var 0)
    refine pds_cons ?_ ?_
    refine pds_set (i := 2) ?_ sc_w_take.nd
    refine pd_bc oc_abs T.b_abs (by decide +kernel) ?_
    refine pda_c ?_ pda_nil
    refine pd_ix ?_ ?_
    refine pd_ix ?_ pd_int
    exact (pd_var 0)
    refine pd_ix ?_ pd_int
    exact (pd_var 0)
    refine pds_cons ?_ ?_
    refine pds_putI ?_ ?_ pd_int
    refine pd_op od_add ?_ pd_int
    refine pd_ix ?_ pd_int
    exact (pd_var 0)
    exact (pd_var 0)
    refine pds_one ?_
    refine pds_if ?_ ?_ ?_
    refine pdt_cmp od_ge ?_ ?_
    exact (pd_var 2)
    exact (pd_op od_pow pd_int pd_int)
    refine pds_one ?_
    refine pds_putI ?_ ?_ pd_int
    exact (pd_var 2)
    exact (pd_var 0)
    refine pds_one ?_
    refine pds_putI ?_ ?_ pd_int
    refine pd_op od_mod ?_ pd_int
    refine pd_bt oc_int T.b_int (by decide +kernel) ?_
    refine pda_c ?_ pda_nil
    refine pd_op od_add ?_ ?_
    refine pd_op od_add ?_ ?_
    refine pd_op od_mul ?_ pd_int
    refine pd_ix ?_ pd_int
    exact (pd_var 0)
    refine pd_op od_mul ?_ pd_int
    refine pd_op od_mod ?_ pd_int
    refine pd_bt oc_int T.b_int (by decide +kernel) ?_
    refine pda_c ?_ pda_nil
    exact (pd_var 2)
    refine pd_ix ?_ pd_int
    exact (pd_var 0)
    exact (pd_var 0)
    refine pds_cons ?_ ?_
    refine pds_if ?_ ?_ pds_nil
    refine pdt_cmp od_gt ?_ pd_int
    refine pd_ix ?_ pd_int
    exact (pd_var 0)
    refine pds_cons ?_ ?_
    refine pds_set (i := 3) ?_ sc_w_take.nd
    refine pd_op od_mod ?_ ?_
    refine pd_bt oc_int T.b_int (by decide +kernel) ?_
    refine pda_c ?_ pda_nil
    refine pd_ix ?_ pd_int
    exact (pd_var 0)
    exact (pd_var 1)
    refine pds_cons ?_ ?_
    refine pds_putI ?_ ?_ pd_int
    refine pd_op od_div ?_ ?_
    refine pd_ix ?_ pd_int
    exact (pd_var 0)
    exact (pd_var 1)
    exact (pd_var 0)
    refine pds_one ?_
    refine pds_ret ?_
    exact (pd_var 3)
    refine pds_cons ?_ ?_
    refine pds_set (i := 4) ?_ sc_w_take.nd
    refine pd_ix ?_ pd_int
    exact (pd_var 0)
    refine pds_cons ?_ ?_
    refine pds_putI ?_ ?_ pd_int
    refine pd_op od_mod ?_ pd_int
    refine pd_bt oc_int T.b_int (by decide +kernel) ?_
    refine pda_c ?_ pda_nil
    refine pd_op od_add ?_ pd_int
    refine pd_op od_add ?_ ?_
    refine pd_op od_mul ?_ ?_
    exact (pd_var 4)
    exact (pd_var 4)
    refine pd_op od_mul ?_ pd_int
    exact (pd_var 4)
    exact (pd_var 0)
    refine pds_one ?_
    refine pds_ret ?_
    refine pd_op od_mod ?_ ?_
    refine pd_bt oc_int T.b_int (by decide +kernel) ?_
    refine pda_c ?_ pda_nil
    refine pd_op od_add ?_ ?_
    refine pd_op od_div ?_ pd_int
    refine pd_ix ?_ pd_int
    exact (pd_var 0)
    refine pd_op od_mul ?_ pd_int
    refine pd_op od_mod ?_ pd_int
    refine pd_bt oc_int T.b_int (by decide +kernel) ?_
    refine pda_c ?_ pda_nil
    refine pd_ix ?_ pd_int
    exact (pd_var 0)
    exact (pd_var 1))
theorem ft_w_take_2 (T : Txt K mg c) : FT P w K mg base 2 "_law_take" (padF 2 [] (F_w_take c)) := by
  obtain ⟨f, fd, hm, FD⟩ := T.fn_w_take
  exact ⟨f, fd, _, _, _, hm, FD.kp, ok_w_take T FD, (Bd.nil (FD.bindsN (fun _ _ _ _ _ _ us hl => match us, hl with | [_, _], _ => rfl))), rfl⟩
theorem ok_w_one (T : Txt K mg c) {f : Addr} {fd : FuncData} (FD : FunD K "_law_one" "_law_one" (defArgs s_w_one) (defBody s_w_one) (defScope s_w_one) [] [] f fd) : FnD P w K mg base 3 f fd ["_law_bag", "_law_row"] (F_w_one c) := fnD_of (N := ["_law_bag", "_law_row"]) FD sc_w_one (fun cdv A outer s H E hr => by
    refine pds_one ?_
    refine pds_ret ?_
    refine pd_ix ?_ ?_
    exact (pd_var 1)
    refine pd_fun (ft_w_take_2 T) (hr.mono (by decide)) ?_
    refine pda_c ?_ ?_
    exact (pd_var 0)
    refine pda_c ?_ pda_nil
    refine pd_bc oc_len T.b_len (by decide +kernel) ?_
    refine pda_c ?_ pda_nil
    exact (pd_var 1))
theorem ft_w_one_2 (T : Txt K mg c) : FT P w K mg base 3 "_law_one" (padF 2 [] (F_w_one c)) := by
  obtain ⟨f, fd, hm, FD⟩ := T.fn_w_one
  exact ⟨f, fd, _, _, _, hm, FD.kp, ok_w_one T FD, (Bd.nil (FD.bindsN (fun _ _ _ _ _ _ us hl => match us, hl with | [_, _], _ => rfl))), rfl⟩
theorem ok_w_steps (T : Txt K mg c) {f : Addr} {fd : FuncData} (FD : FunD K "_law_steps" "_law_steps" (defArgs s_w_steps) (defBody s_w_steps) (defScope s_w_steps) [] [] f fd) : FnD P w K mg base 4 f fd ["_law_bag"] (F_w_steps c) := fnD_of (N := ["_law_bag"]) FD sc_w_steps (fun cdv A outer s H E hr => by
    refine pds_one ?_
    refine pds_ret ?_
    refine pd_fun (ft_w_one_2 T) (hr.mono (by decide)) ?_
    refine pda_c ?_ ?_
    exact (pd_var 0)
    refine pda_c ?_ pda_nil
    refine pd_lst ?_
    refine pda_int ?_
    refine pda_int ?_
    refine pda_int ?_
    refine pda_int ?_
    refine pda_int ?_
    refine pda_int ?_
    refine pda_int ?_
    refine pda_int ?_
    refine pda_int ?_
    exact (pda_int pda_nil))
theorem ft_w_steps_1 (T : Txt K mg c) : FT P w K mg base 4 "_law_steps" (padF 1 [] (F_w_steps c)) := by
  obtain ⟨f, fd, hm, FD⟩ := T.fn_w_steps
  exact ⟨f, fd, _, _, _, hm, FD.kp, ok_w_steps T FD, (Bd.nil (FD.bindsN (fun _ _ _ _ _ _ us hl => match us, hl with | [_], _ => rfl))), rfl⟩
theorem ok_w_names (T : Txt K mg c) {f : Addr} {fd : FuncData} (FD : FunD K "_law_names" "_law_names" (defArgs s_w_names) (defBody s_w_names) (defScope s_w_names) [] [] f fd) : FnD P w K mg base 4 f fd ["_law_bag", "_law_many"] (F_w_names c) := fnD_of (N := ["_law_bag", "_law_many", "_law_letters", "_law_stem", "_law_k", "_law_at", "_law_first"]) FD sc_w_names (fun cdv A outer s H E hr => by
    refine pds_cons ?_ ?_
    exact (pds_set (i := 2) pd_str sc_w_names.nd)
    refine pds_cons ?_ ?_
    refine pds_set (i := 3) ?_ sc_w_names.nd
    refine pd_join pd_str ?_
    refine pd_lc ?_ sc_w_names.nd (blkOk_by (own := [("_law_k", 4)]) (by rfl)) (fun _ _ _ _ _ => (pdg_name 4 sc_w_names.nd)) ?_ ?_ (by rfl)
    refine pdi_range1 T.b_range ?_
    refine pda_c ?_ pda_nil
    refine pd_fun (ft_w_one_2 T) (hr.mono (by decide)) ?_
    refine pda_c ?_ ?_
    exact (pd_var 0)
    refine pda_c ?_ pda_nil
    refine pd_lst ?_
    refine pda_int ?_
    refine pda_int ?_
    refine pda_int ?_
    refine pda_int ?_
    exact (pda_int pda_nil)
    intro _ _ _ _ _
    exact (pdts_nil)
    intro _ _ _ _ _
    refine pd_fun (ft_w_one_2 T) (hr.mono (by decide)) ?_
    refine pda_c ?_ ?_
    exact (pd_var 0)
    refine pda_c ?_ pda_nil
    exact (pd_var 2)
    refine pds_cons ?_ ?_
    refine pds_asg ?_ (pdg_tup (n := 2) (by rfl) (pdgs_cons (pdg_name 5 sc_w_names.nd) (pdgs_cons (pdg_name 6 sc_w_names.nd) pdgs_nil)))
    refine pd_tup ?_
    refine pda_c ?_ ?_
    refine pd_fun (ft_w_take_2 T) (hr.mono (by decide)) ?_
    refine pda_c ?_ ?_
    exact (pd_var 0)
    refine pda_c ?_ pda_nil
    refine pd_op od_add ?_ pd_int
    refine pd_bc oc_len T.b_len (by decide +kernel) ?_
    refine pda_c ?_ pda_nil
    exact (pd_var 3)
    refine pda_c ?_ pda_nil
    refine pd_fun (ft_w_take_2 T) (hr.mono (by decide)) ?_
    refine pda_c ?_ ?_
    exact (pd_var 0)
    exact (pda_int pda_nil)
    refine pds_one ?_
    refine pds_ret ?_
    refine pd_lc ?_ sc_w_names.nd (blkOk_by (own := [("_law_k", 4)]) (by rfl)) (fun _ _ _ _ _ => (pdg_name 4 sc_w_names.nd)) ?_ ?_ (by rfl)
    refine pdi_range1 T.b_range ?_
    refine pda_c ?_ pda_nil
    exact (pd_var 1)
    intro _ _ _ _ _
    exact (pdts_nil)
    intro _ _ _ _ _
    refine pd_op od_addS ?_ ?_
    refine pd_op od_addS ?_ ?_
    refine pd_slStr ?_ pdo_none ?_
    exact (pd_var 3)
    refine pdo_some ?_
    exact (pd_var 5)
    refine pd_ix ?_ ?_
    exact (pd_var 2)
    refine pd_op od_mod ?_ pd_int
    refine pd_bt oc_int T.b_int (by decide +kernel) ?_
    refine pda_c ?_ pda_nil
    refine pd_op od_add ?_ ?_
    exact (pd_var 6)
    refine pd_op od_mul pd_int ?_
    exact (pd_var 4)
    refine pd_slStr ?_ ?_ pdo_none
    exact (pd_var 3)
    refine pdo_some ?_
    exact (pd_var 5))
theorem ft_w_names_2 (T : Txt K mg c) : FT P w K mg base 4 "_law_names" (padF 2 [] (F_w_names c)) := by
  obtain ⟨f, fd, hm, FD⟩ := T.fn_w_names
  exact ⟨f, fd, _, _, _, hm, FD.kp, ok_w_names T FD, (Bd.nil (FD.bindsN (fun _ _ _ _ _ _ us hl => match us, hl with | [_, _], _ => rfl))), rfl⟩
theorem ok_w_mixed (T : Txt K mg c) {f : Addr} {fd : FuncData} (FD : FunD K "_law_mixed" "_law_mixed" (defArgs s_w_mixed) (defBody s_w_mixed) (defScope s_w_mixed) [] [] f fd) : FnD P w K mg base 3 f fd ["_law_bag", "_law_row"] (F_w_mixed c) := FnD.zap (fnD_of (N := ["_law_bag", "_law_row", "_law_found", "_law_item"]) FD sc_w_mixed (fun cdv A outer s H E hr => by
    refine pds_cons ?_ ?_
    refine pds_set (i := 2) ?_ sc_w_mixed.nd
    exact (pd_loc pda_nil)
    refine pds_cons ?_ ?_
    refine pds_forS ?_ (pdg_name 3 sc_w_mixed.nd) ?_ (by rfl) (passes_of rfl)
    exact (pd_var 1)
    refine pds_one ?_
    refine pds_expr ?_
    refine pd_insert ?_ ?_
    exact (pd_var 2)
    refine pda_c ?_ ?_
    refine pd_fun (ft_w_take_2 T) (hr.mono (by decide)) ?_
    refine pda_c ?_ ?_
    exact (pd_var 0)
    refine pda_c ?_ pda_nil
    refine pd_op od_add ?_ pd_int
    refine pd_bc oc_len T.b_len (by decide +kernel) ?_
    refine pda_c ?_ pda_nil
    exact (pd_var 2)
    refine pda_c ?_ pda_nil
    exact (pd_var 3)
    refine pds_one ?_
    refine pds_ret ?_
    exact (pd_var 2)))
theorem ft_w_mixed_2 (T : Txt K mg c) : FT P w K mg base 3 "_law_mixed" (padF 2 [] (F_w_mixed c)) := by
  obtain ⟨f, fd, hm, FD⟩ := T.fn_w_mixed
  exact ⟨f, fd, _, _, _, hm, FD.kp, ok_w_mixed T FD, (Bd.nil (FD.bindsN (fun _ _ _ _ _ _ us hl => match us, hl with | [_, _], _ => rfl))), rfl⟩
theorem ok_w_facts (T : Txt K mg c) {f : Addr} {fd : FuncData} (FD : FunD K "_law_facts" "_law_facts" (defArgs s_w_facts) (defBody s_w_facts) (defScope s_w_facts) [] [] f fd) : FnD P w K mg base 4 f fd ["_law_bag", "_law_names_here", "_law_parts"] (F_w_facts c) := FnD.zap (fnD_of (N := ["_law_bag", "_law_names_here", "_law_parts", "_law_times_z", "_law_name", "_law_facts_here", "_law_way", "_law_at", "_law_time", "_law_k", "_law_one_here", "_law_other", "_law_low", "_law_high"]) FD sc_w_facts (fun cdv A outer s H E hr => by
    refine pds_cons ?_ ?_
    refine pds_setLc (i := 3) ?_ sc_w_facts.nd (blkOk_by (own := [("_law_name", 4)]) (by rfl)) (fun _ _ _ _ _ => (pdg_name 4 sc_w_facts.nd)) ?_ ?_ (by rfl) (sw_true rfl rfl rfl (by decide +kernel))
    refine pdi_list ?_
    exact (pd_var 1)
    intro _ _ _ _ _
    exact (pdts_nil)
    intro _ _ _ _ _
    refine pd_tup ?_
    refine pda_c ?_ ?_
    refine pd_fun (ft_w_take_2 T) (hr.mono (by decide)) ?_
    refine pda_c ?_ ?_
    exact (pd_var 0)
    refine pda_c ?_ pda_nil
    refine pd_op od_add ?_ pd_int
    refine pd_op od_mul pd_int ?_
    exact (pd_var 2)
    refine pda_c ?_ pda_nil
    refine pd_fun (ft_w_take_2 T) (hr.mono (by decide)) ?_
    refine pda_c ?_ ?_
    exact (pd_var 0)
    refine pda_c ?_ pda_nil
    refine pd_op od_add ?_ pd_int
    refine pd_op od_mul pd_int ?_
    exact (pd_var 2)
    refine pds_cons ?_ ?_
    refine pds_set (i := 5) ?_ sc_w_facts.nd
    exact (pd_loc pda_nil)
    refine pds_cons ?_ ?_
    refine pds_for ?_ (pdg_name 6 sc_w_facts.nd) ?_ (by rfl) (passes_of rfl)
    refine pdi_range1 T.b_range ?_
    exact (pda_int pda_nil)
    refine pds_one ?_
    refine pds_for ?_ (pdg_name 7 sc_w_facts.nd) ?_ (by rfl) (passes_of rfl)
    refine pdi_range1 T.b_range ?_
    refine pda_c ?_ pda_nil
    refine pd_bc oc_len T.b_len (by decide +kernel) ?_
    refine pda_c ?_ pda_nil
    exact (pd_var 1)
    refine pds_one ?_
    refine pds_if ?_ ?_ pds_nil
    refine pdt_cmp od_gt ?_ pd_int
    refine pd_fun (ft_w_take_2 T) (hr.mono (by decide)) ?_
    refine pda_c ?_ ?_
    exact (pd_var 0)
    exact (pda_int pda_nil)
    refine pds_cons ?_ ?_
    refine pds_set (i := 8) ?_ sc_w_facts.nd
    refine pd_ix ?_ ?_
    refine pd_ix ?_ ?_
    exact (pd_var 3)
    exact (pd_var 7)
    exact (pd_var 6)
    refine pds_one ?_
    refine pds_expr ?_
    refine pd_append ?_ ?_
    exact (pd_var 5)
    refine pda_c ?_ pda_nil
    refine pd_tup ?_
    refine pda_c ?_ ?_
    refine pd_ix ?_ ?_
    refine pd_lst ?_
    refine pda_str ?_
    exact (pda_str pda_nil)
    exact (pd_var 6)
    refine pda_c ?_ ?_
    refine pd_tup ?_
    refine pda_c ?_ pda_nil
    refine pd_ix ?_ ?_
    exact (pd_var 1)
    exact (pd_var 7)
    refine pda_c ?_ ?_
    refine pd_op od_sub ?_ ?_
    exact (pd_var 8)
    refine pd_fun (ft_w_take_2 T) (hr.mono (by decide)) ?_
    refine pda_c ?_ ?_
    exact (pd_var 0)
    exact (pda_int pda_nil)
    refine pda_c ?_ pda_nil
    refine pd_op od_add ?_ ?_
    exact (pd_var 8)
    refine pd_fun (ft_w_take_2 T) (hr.mono (by decide)) ?_
    refine pda_c ?_ ?_
    exact (pd_var 0)
    exact (pda_int pda_nil)
    refine pds_cons ?_ ?_
    refine pds_for ?_ (pdg_name 9 sc_w_facts.nd) ?_ (by rfl) (passes_of rfl)
    refine pdi_range1 T.b_range ?_
    refine pda_c ?_ pda_nil
    refine pd_if ?_ ?_ pd_int
    refine pdt_cmp od_gt ?_ pd_int
    refine pd_bc oc_len T.b_len (by decide +kernel) ?_
    refine pda_c ?_ pda_nil
    exact (pd_var 1)
    refine pd_fun (ft_w_take_2 T) (hr.mono (by decide)) ?_
    refine pda_c ?_ ?_
    exact (pd_var 0)
    exact (pda_int pda_nil)
    refine pds_cons ?_ ?_
    refine pds_par (i := 6) (j := 10) ?_ (by rfl) sc_w_facts.nd
    refine pda_c ?_ ?_
    refine pd_fun (ft_w_take_2 T) (hr.mono (by decide)) ?_
    refine pda_c ?_ ?_
    exact (pd_var 0)
    exact (pda_int pda_nil)
    refine pda_c ?_ pda_nil
    refine pd_fun (ft_w_take_2 T) (hr.mono (by decide)) ?_
    refine pda_c ?_ ?_
    exact (pd_var 0)
    refine pda_c ?_ pda_nil
    refine pd_bc oc_len T.b_len (by decide +kernel) ?_
    refine pda_c ?_ pda_nil
    exact (pd_var 1)
    refine pds_cons ?_ ?_
    refine pds_set (i := 11) ?_ sc_w_facts.nd
    refine pd_op od_mod ?_ ?_
    refine pd_bt oc_int T.b_int (by decide +kernel) ?_
    refine pda_c ?_ pda_nil
    refine pd_op od_add ?_ ?_
    refine pd_op od_add ?_ pd_int
    exact (pd_var 10)
    refine pd_fun (ft_w_take_2 T) (hr.mono (by decide)) ?_
    refine pda_c ?_ ?_
    exact (pd_var 0)
    refine pda_c ?_ pda_nil
    refine pd_op od_sub ?_ pd_int
    refine pd_bc oc_len T.b_len (by decide +kernel) ?_
    refine pda_c ?_ pda_nil
    exact (pd_var 1)
    refine pd_bc oc_len T.b_len (by decide +kernel) ?_
    refine pda_c ?_ pda_nil
    exact (pd_var 1)
    refine pds_cons ?_ ?_
    refine pds_set (i := 8) ?_ sc_w_facts.nd
    refine pd_op od_sub ?_ ?_
    refine pd_ix ?_ ?_
    refine pd_ix ?_ ?_
    exact (pd_var 3)
    exact (pd_var 11)
    exact (pd_var 6)
    refine pd_ix ?_ ?_
    refine pd_ix ?_ ?_
    exact (pd_var 3)
    exact (pd_var 10)
    exact (pd_var 6)
    refine pds_cons ?_ ?_
    refine pds_par (i := 12) (j := 13) ?_ (by rfl) sc_w_facts.nd
    refine pda_c ?_ ?_
    refine pd_op od_sub ?_ ?_
    exact (pd_var 8)
    refine pd_fun (ft_w_take_2 T) (hr.mono (by decide)) ?_
    refine pda_c ?_ ?_
    exact (pd_var 0)
    exact (pda_int pda_nil)
    refine pda_c ?_ pda_nil
    refine pd_op od_add ?_ ?_
    exact (pd_var 8)
    refine pd_fun (ft_w_take_2 T) (hr.mono (by decide)) ?_
    refine pda_c ?_ ?_
    exact (pd_var 0)
    exact (pda_int pda_nil)
    refine pds_one ?_
    refine pds_expr ?_
    refine pd_append ?_ ?_
    exact (pd_var 5)
    refine pda_c ?_ pda_nil
    refine pd_tup ?_
    refine pda_c ?_ ?_
    refine pd_ix ?_ ?_
    refine pd_lst ?_
    refine pda_str ?_
    exact (pda_str pda_nil)
    exact (pd_var 6)
    refine pda_c ?_ ?_
    refine pd_tup ?_
    refine pda_c ?_ ?_
    refine pd_ix ?_ ?_
    exact (pd_var 1)
    exact (pd_var 10)
    refine pda_c ?_ pda_nil
    refine pd_ix ?_ ?_
    exact (pd_var 1)
    exact (pd_var 11)
    refine pda_c ?_ ?_
    refine pd_fun (ft_w_one_2 T) (hr.mono (by decide)) ?_
    refine pda_c ?_ ?_
    exact (pd_var 0)
    refine pda_c ?_ pda_nil
    refine pd_lst ?_
    refine pda_c ?_ ?_
    exact (pd_var 12)
    refine pda_c ?_ ?_
    exact (pd_var 12)
    exact (pda_non pda_nil)
    refine pda_c ?_ pda_nil
    refine pd_fun (ft_w_one_2 T) (hr.mono (by decide)) ?_
    refine pda_c ?_ ?_
    exact (pd_var 0)
    refine pda_c ?_ pda_nil
    refine pd_lst ?_
    refine pda_c ?_ ?_
    exact (pd_var 13)
    refine pda_c ?_ ?_
    exact (pd_var 13)
    exact (pda_non pda_nil)
    refine pds_one ?_
    refine pds_ret ?_
    refine pd_tup ?_
    refine pda_c ?_ ?_
    refine pd_fun (ft_w_mixed_2 T) (hr.mono (by decide)) ?_
    refine pda_c ?_ ?_
    exact (pd_var 0)
    refine pda_c ?_ pda_nil
    exact (pd_var 5)
    refine pda_c ?_ pda_nil
    exact (pd_var 3)))
theorem ft_w_facts_3 (T : Txt K mg c) : FT P w K mg base 4 "_law_facts" (padF 3 [] (F_w_facts c)) := by
  obtain ⟨f, fd, hm, FD⟩ := T.fn_w_facts
  exact ⟨f, fd, _, _, _, hm, FD.kp, ok_w_facts T FD, (Bd.nil (FD.bindsN (fun _ _ _ _ _ _ us hl => match us, hl with | [_, _, _], _ => rfl))), rfl⟩
theorem ok_w_shares (T : Txt K mg c) {f : Addr} {fd : FuncData} (FD : FunD K "_law_shares" "_law_shares" (defArgs s_w_shares) (defBody s_w_shares) (defScope s_w_shares) [] [] f fd) : FnD P w K mg base 3 f fd ["_law_bag", "_law_names_here", "_law_parts"] (F_w_shares c) := fnD_of (N := ["_law_bag", "_law_names_here", "_law_parts", "_law_name"]) FD sc_w_shares (fun cdv A outer s H E hr => by
    refine pds_one ?_
    refine pds_ret ?_
    refine pd_lc ?_ sc_w_shares.nd (blkOk_by (own := [("_law_name", 3)]) (by rfl)) (fun _ _ _ _ _ => (pdg_name 3 sc_w_shares.nd)) ?_ ?_ (by rfl)
    refine pdi_list ?_
    exact (pd_var 1)
    intro _ _ _ _ _
    exact (pdts_nil)
    intro _ _ _ _ _
    refine pd_tup ?_
    refine pda_c ?_ ?_
    exact (pd_var 3)
    refine pda_c ?_ pda_nil
    refine pd_op od_add pd_int ?_
    refine pd_fun (ft_w_take_2 T) (hr.mono (by decide)) ?_
    refine pda_c ?_ ?_
    exact (pd_var 0)
    refine pda_c ?_ pda_nil
    refine pd_op od_sub ?_ pd_int
    exact (pd_var 2))
theorem ft_w_shares_3 (T : Txt K mg c) : FT P w K mg base 3 "_law_shares" (padF 3 [] (F_w_shares c)) := by
  obtain ⟨f, fd, hm, FD⟩ := T.fn_w_shares
  exact ⟨f, fd, _, _, _, hm, FD.kp, ok_w_shares T FD, (Bd.nil (FD.bindsN (fun _ _ _ _ _ _ us hl => match us, hl with | [_, _, _], _ => rfl))), rfl⟩
theorem ok_is_list (T : Txt K mg c) {f : Addr} {fd : FuncData} (FD : FunD K "is_list" "is_list" (defArgs s_is_list) (defBody s_is_list) (defScope s_is_list) [] [] f fd) : FnD P w K mg base 1 f fd ["value"] (F_is_list c) := fnD_of (N := ["value"]) FD sc_is_list (fun cdv A outer s H E hr => by
    refine pds_one ?_
    refine pds_ret ?_
    refine pd_isiT ?_ (.cons (ClsV.ty _) (.cons (ClsV.ty _) .nil)) (pda_c (pd_bltn (v := .ty "list") (u := .type "list") T.b_list (by decide +kernel) rfl) (pda_c (pd_bltn (v := .ty "tuple") (u := .type "tuple") T.b_tuple (by decide +kernel) rfl) pda_nil)) (by decide) T.ans_list_tuple T.b_isinstance
    exact (pd_var 0))
theorem ft_is_list_1 (T : Txt K mg c) : FT P w K mg base 1 "is_list" (padF 1 [] (F_is_list c)) := by
  obtain ⟨f, fd, hm, FD⟩ := T.fn_is_list
  exact ⟨f, fd, _, _, _, hm, FD.kp, ok_is_list T FD, (Bd.nil (FD.bindsN (fun _ _ _ _ _ _ us hl => match us, hl with | [_], _ => rfl))), rfl⟩
theorem ok_is_name (T : Txt K mg c) {f : Addr} {fd : FuncData} (FD : FunD K "is_name" "is_name" (defArgs s_is_name) (defBody s_is_name) (defScope s_is_name) [] [] f fd) : FnD P w K mg base 1 f fd ["value"] (F_is_name c) := fnD_of (N := ["value", "sign"]) FD sc_is_name (fun cdv A outer s H E hr => by
    refine pds_cons ?_ ?_
    refine pds_if ?_ ?_ pds_nil
    refine PDW.pt ?_
    refine pdw_or ?_ ?_
    refine pdt_not ?_
    refine pdt_val ?_
    refine pd_isi ?_ (ClsV.ty _) (pd_bltn (v := .ty "str") (u := .type "str") T.b_str (by decide +kernel) rfl) T.ans_str T.b_isinstance
    exact (pd_var 0)
    refine pdw_or1 ?_
    refine pdt_not ?_
    refine pdt_chain od_le od_le pd_int ?_ (let ⟨t, h⟩ := T.g_LONGEST_NAME; pd_glob (RepA.int _) h ⟨t, rfl⟩)
    refine pd_bc oc_len T.b_len (by decide +kernel) ?_
    refine pda_c ?_ pda_nil
    exact (pd_var 0)
    refine pds_one ?_
    exact (pds_ret pd_bl)
    refine pds_one ?_
    refine pds_ret ?_
    refine pd_bc (oc_all (by rfl)) T.b_all (by decide +kernel) ?_
    refine pda_c ?_ pda_nil
    refine pd_lc ?_ sc_is_name.nd (blkOk_by (own := [("sign", 1)]) (by rfl)) (fun _ _ _ _ _ => (pdg_name 1 sc_is_name.nd)) ?_ ?_ (by rfl)
    refine pdi_str ?_
    exact (pd_var 0)
    intro _ _ _ _ _
    exact (pdts_nil)
    intro _ _ _ _ _
    refine pd_cmp od_in ?_ (let ⟨t, h⟩ := T.g_LETTERS; pd_glob (RepA.str _) h ⟨t, rfl⟩) (by rfl)
    exact (pd_var 1))
theorem ft_is_name_1 (T : Txt K mg c) : FT P w K mg base 1 "is_name" (padF 1 [] (F_is_name c)) := by
  obtain ⟨f, fd, hm, FD⟩ := T.fn_is_name
  exact ⟨f, fd, _, _, _, hm, FD.kp, ok_is_name T FD, (Bd.nil (FD.bindsN (fun _ _ _ _ _ _ us hl => match us, hl with | [_], _ => rfl))), rfl⟩
theorem ok_is_whole (T : Txt K mg c) {f : Addr} {fd : FuncData} (FD : FunD K "is_whole" "is_whole" (defArgs s_is_whole) (defBody s_is_whole) (defScope s_is_whole) [] [] f fd) : FnD P w K mg base 1 f fd ["value"] (F_is_whole c) := fnD_of (N := ["value"]) FD sc_is_whole (fun cdv A outer s H E hr => by
    refine pds_one ?_
    refine pds_ret ?_
    refine pd_and ?_ ?_
    refine pd_isi ?_ (ClsV.ty _) (pd_bltn (v := .ty "int") (u := .type "int") T.b_int (by decide +kernel) rfl) T.ans_int__Ratio T.b_isinstance
    exact (pd_var 0)
    refine pd_one ?_
    refine pd_not ?_
    refine pd_isi ?_ (ClsV.ty _) (pd_bltn (v := .ty "bool") (u := .type "bool") T.b_bool (by decide +kernel) rfl) T.ans_bool__Ratio T.b_isinstance
    exact (pd_var 0))
theorem ft_is_whole_1 (T : Txt K mg c) : FT P w K mg base 1 "is_whole" (padF 1 [] (F_is_whole c)) := by
  obtain ⟨f, fd, hm, FD⟩ := T.fn_is_whole
  exact ⟨f, fd, _, _, _, hm, FD.kp, ok_is_whole T FD, (Bd.nil (FD.bindsN (fun _ _ _ _ _ _ us hl => match us, hl with | [_], _ => rfl))), rfl⟩
theorem ok_common_divisor (T : Txt K mg c) {f : Addr} {fd : FuncData} (FD : FunD K "common_divisor" "common_divisor" (defArgs s_common_divisor) (defBody s_common_divisor) (defScope s_common_divisor) [] [] f fd) : FnD P w K mg base 2 f fd ["one", "other"] (F_common_divisor c) := fnD_of (N := ["one", "other"]) FD sc_common_divisor (fun cdv A outer s H E hr => by
    refine pds_cons ?_ ?_
    refine pds_while ?_ ?_ (passes_of rfl)
    refine pdt_cmp (od_ne hr.units) ?_ pd_int
    exact (pd_var 1)
    refine pds_one ?_
    refine pds_par (i := 0) (j := 1) ?_ (by rfl) sc_common_divisor.nd
    refine pda_c ?_ ?_
    exact (pd_var 1)
    refine pda_c ?_ pda_nil
    refine pd_op od_mod ?_ ?_
    exact (pd_var 0)
    exact (pd_var 1)
    refine pds_one ?_
    refine pds_ret ?_
    exact (pd_var 0))
theorem ft_common_divisor_2 (T : Txt K mg c) : FT P w K mg base 2 "common_divisor" (padF 2 [] (F_common_divisor c)) := by
  obtain ⟨f, fd, hm, FD⟩ := T.fn_common_divisor
  exact ⟨f, fd, _, _, _, hm, FD.kp, ok_common_divisor T FD, (Bd.nil (FD.bindsN (fun _ _ _ _ _ _ us hl => match us, hl with | [_, _], _ => rfl))), rfl⟩
theorem ok_RatioD_initD (T : Txt K mg c) {f : Addr} {fd : FuncData} (FD : FunD K "__init__" "Ratio.__init__" (defArgs s_RatioD_initD) (defBody s_RatioD_initD) (defScope s_RatioD_initD) [.int 1] [] f fd) : FnD P w K mg base 3 f fd ["self", "top", "bottom"] (F_RatioD_initD c) := fnD_of (N := ["self", "top", "bottom", "divisor"]) FD sc_RatioD_initD (fun cdv A outer s H E hr => by
    refine pds_cons ?_ ?_
    refine pds_if ?_ ?_ pds_nil
    refine PDW.pt ?_
    refine pdw_or ?_ ?_
    refine pdt_not ?_
    refine pdt_val ?_
    refine pd_fun (ft_is_whole_1 T) (hr.mono (by decide)) ?_
    refine pda_c ?_ pda_nil
    exact (pd_var 1)
    refine pdw_or ?_ ?_
    refine pdt_not ?_
    refine pdt_val ?_
    refine pd_fun (ft_is_whole_1 T) (hr.mono (by decide)) ?_
    refine pda_c ?_ pda_nil
    exact (pd_var 2)
    refine pdw_or1 ?_
    refine pdt_cmp (od_eq hr.units) ?_ pd_int
    exact (pd_var 2)
    exact (pds_one pds_stuck)
    refine pds_cons ?_ ?_
    refine pds_set (i := 3) ?_ sc_RatioD_initD.nd
    refine pd_fun (ft_common_divisor_2 T) (hr.mono (by decide)) ?_
    refine pda_c ?_ ?_
    refine pd_bc oc_abs T.b_abs (by decide +kernel) ?_
    refine pda_c ?_ pda_nil
    exact (pd_var 1)
    refine pda_c ?_ pda_nil
    refine pd_bc oc_abs T.b_abs (by decide +kernel) ?_
    refine pda_c ?_ pda_nil
    exact (pd_var 2)
    refine pds_cons ?_ ?_
    refine pds_set (i := 3) ?_ sc_RatioD_initD.nd
    refine pd_if ?_ ?_ ?_
    refine pdt_cmp od_lt ?_ pd_int
    exact (pd_var 2)
    refine pd_negI ?_
    exact (pd_var 3)
    exact (pd_var 3)
    refine pds_cons ?_ ?_
    refine pds_putF ?_ ?_ (by intro C hC; simp only [List.mem_cons, List.not_mem_nil, or_false] at hC; subst hC; exact ⟨T.cl_Ratio, T.fl_Ratio_own_top.no⟩)
    refine pd_op od_div ?_ ?_
    exact (pd_var 1)
    exact (pd_var 3)
    exact (pd_var 0)
    refine pds_one ?_
    refine pds_putF ?_ ?_ (by intro C hC; simp only [List.mem_cons, List.not_mem_nil, or_false] at hC; subst hC; exact ⟨T.cl_Ratio, T.fl_Ratio_own_bottom.no⟩)
    refine pd_op od_div ?_ ?_
    exact (pd_var 2)
    exact (pd_var 3)
    exact (pd_var 0))
theorem kt_Ratio_1 (T : Txt K mg c) : KT P w K mg base 3 "Ratio" c.cRatio (padF 3 [.int 1] (F_RatioD_initD c)) := by
  obtain ⟨f, fd, h0, hf, FD⟩ := T.me_RatioD_initD
  exact ⟨T.gc_Ratio, f, fd, _, _, _, ⟨T.mk_Ratio.1, h0, hf, T.mk_Ratio.2⟩, ok_RatioD_initD T FD, (bd_of (FD.binds1 2 0 (by simp) rfl (fun _ _ _ _ _ _ _ us its l1 l2 => match us, its, l1, l2 with | [_, _], [_], _, _ => ⟨_, rfl, rfl⟩)) (fun _ _ => .cons (.int _) .nil)), rfl⟩
theorem kt_Ratio_2 (T : Txt K mg c) : KT P w K mg base 3 "Ratio" c.cRatio (padF 3 [] (F_RatioD_initD c)) := by
  obtain ⟨f, fd, h0, hf, FD⟩ := T.me_RatioD_initD
  exact ⟨T.gc_Ratio, f, fd, _, _, _, ⟨T.mk_Ratio.1, h0, hf, T.mk_Ratio.2⟩, ok_RatioD_initD T FD, (bd_of (FD.binds1 3 1 (by simp) rfl (fun _ _ _ _ _ _ _ us its l1 l2 => match us, its, l1, l2 with | [_, _, _], [_], _, _ => ⟨_, rfl, rfl⟩)) (fun _ _ => .nil)), rfl⟩
theorem ok_Ratio_bottom (T : Txt K mg c) {f : Addr} {fd : FuncData} (FD : FunD K "bottom" "Ratio.bottom" (defArgs s_Ratio_bottom) (defBody s_Ratio_bottom) (defScope s_Ratio_bottom) [] [] f fd) : FnD P w K mg base 1 f fd ["self"] (F_Ratio_bottom c) := fnD_of (N := ["self"]) FD sc_Ratio_bottom (fun cdv A outer s H E hr => by
    refine pds_one ?_
    refine pds_ret ?_
    refine pd_fld ?_ (by intro r hr; simp only [List.mem_cons, List.not_mem_nil, or_false] at hr; subst hr; exact T.fl_Ratio_own_bottom)
    exact (pd_var 0))
theorem po_Ratio_Ratio_bottom (T : Txt K mg c) {k : Nat} (hk : 1 ≤ k) : PropOk P w K mg base k "bottom" c.kRatio (padF 1 [] (F_Ratio_bottom c)) := by
  obtain ⟨pp, g, fd, h0, FD⟩ := T.pr_Ratio_bottom
  exact ⟨T.cl_Ratio, pp, g, fd, _, _, h0, (ok_Ratio_bottom T FD).mono hk, (Bd.nil (FD.bindsN (fun _ _ _ _ _ _ us hl => match us, hl with | [_], _ => rfl))), rfl⟩
theorem ok_Ratio_top (T : Txt K mg c) {f : Addr} {fd : FuncData} (FD : FunD K "top" "Ratio.top" (defArgs s_Ratio_top) (defBody s_Ratio_top) (defScope s_Ratio_top) [] [] f fd) : FnD P w K mg base 1 f fd ["self"] (F_Ratio_top c) := fnD_of (N := ["self"]) FD sc_Ratio_top (fun cdv A outer s H E hr => by
    refine pds_one ?_
    refine pds_ret ?_
    refine pd_fld ?_ (by intro r hr; simp only [List.mem_cons, List.not_mem_nil, or_false] at hr; subst hr; exact T.fl_Ratio_own_top)
    exact (pd_var 0))
theorem po_Ratio_Ratio_top (T : Txt K mg c) {k : Nat} (hk : 1 ≤ k) : PropOk P w K mg base k "top" c.kRatio (padF 1 [] (F_Ratio_top c)) := by
  obtain ⟨pp, g, fd, h0, FD⟩ := T.pr_Ratio_top
  exact ⟨T.cl_Ratio, pp, g, fd, _, _, h0, (ok_Ratio_top T FD).mono hk, (Bd.nil (FD.bindsN (fun _ _ _ _ _ _ us hl => match us, hl with | [_], _ => rfl))), rfl⟩
theorem ok_Ratio_is_below (T : Txt K mg c) {f : Addr} {fd : FuncData} (FD : FunD K "is_below" "Ratio.is_below" (defArgs s_Ratio_is_below) (defBody s_Ratio_is_below) (defScope s_Ratio_is_below) [] [] f fd) : FnD P w K mg base 3 f fd ["self", "other"] (F_Ratio_is_below c) := fnD_of (N := ["self", "other"]) FD sc_Ratio_is_below (fun cdv A outer s H E hr => by
    refine pds_one ?_
    refine pds_ret ?_
    refine pd_cmp od_lt ?_ ?_
    refine pd_op od_mul ?_ ?_
    refine pd_fld ?_ (by intro r hr; simp only [List.mem_cons, List.not_mem_nil, or_false] at hr; subst hr; exact T.fl_Ratio_own_top)
    exact (pd_var 0)
    refine pd_prop (k := 1) ?_ (by intro r hr; simp only [List.mem_cons, List.not_mem_nil, or_false] at hr; subst hr; exact (po_Ratio_Ratio_bottom T (by decide))) (hr.mono (by decide))
    exact (pd_var 1)
    refine pd_op od_mul ?_ ?_
    refine pd_prop (k := 1) ?_ (by intro r hr; simp only [List.mem_cons, List.not_mem_nil, or_false] at hr; subst hr; exact (po_Ratio_Ratio_top T (by decide))) (hr.mono (by decide))
    exact (pd_var 1)
    refine pd_fld ?_ (by intro r hr; simp only [List.mem_cons, List.not_mem_nil, or_false] at hr; subst hr; exact T.fl_Ratio_own_bottom)
    exact (pd_var 0))
theorem mt_Ratio_Ratio_is_below_2 (T : Txt K mg c) : MT P w K mg base 3 "is_below" c.cRatio (padF 2 [] (F_Ratio_is_below c)) := by
  obtain ⟨f, fd, h0, hf, FD⟩ := T.me_Ratio_is_below
  exact ⟨f, fd, _, _, _, h0, hf, FD.kp, ok_Ratio_is_below T FD, (Bd.nil (FD.bindsN (fun _ _ _ _ _ _ us hl => match us, hl with | [_, _], _ => rfl))), rfl⟩
theorem mo_Ratio_Ratio_is_below_2 (T : Txt K mg c) {k : Nat} (hk : 3 ≤ k) : MethOk P w K mg base k "is_below" c.kRatio (padF 2 [] (F_Ratio_is_below c)) := ⟨T.cl_Ratio, (mt_Ratio_Ratio_is_below_2 T).mono hk, (show ("is_below" : Str) ∉ nsRatio from by decide +kernel)⟩
theorem ok_is_between (T : Txt K mg c) {f : Addr} {fd : FuncData} (FD : FunD K "is_between" "is_between" (defArgs s_is_between) (defBody s_is_between) (defScope s_is_between) [] [] f fd) : FnD P w K mg base 5 f fd ["value", "low", "high"] (F_is_between c) := fnD_of (N := ["value", "low", "high"]) FD sc_is_between (fun cdv A outer s H E hr => by
    refine pds_cons ?_ ?_
    refine pds_if ?_ ?_ pds_nil
    refine PDW.pt ?_
    refine pdw_or ?_ ?_
    refine pdt_not ?_
    refine pdt_val ?_
    refine pd_isi ?_ (ClsV.own _) (pd_glob (RepA.val _) T.gc_Ratio rfl) T.ans_Ratio__Ratio T.b_isinstance
    exact (pd_var 0)
    refine pdw_or1 ?_
    refine pdt_truth ?_
    refine pd_meth (k := 3) ?_ (by intro r hr; simp only [List.mem_cons, List.not_mem_nil, or_false] at hr; subst hr; exact (mo_Ratio_Ratio_is_below_2 T (by decide))) (hr.mono (by decide)) ?_
    exact (pd_var 0)
    refine pda_c ?_ pda_nil
    refine pd_make (k := 3) (kt_Ratio_1 T) (hr.mono (by decide)) ?_
    refine pda_c ?_ pda_nil
    exact (pd_var 1)
    refine pds_one ?_
    exact (pds_ret pd_bl)
    refine pds_one ?_
    refine pds_ret ?_
    refine pd_or ?_ ?_
    refine pd_cmp od_isN ?_ pd_non
    exact (pd_var 2)
    refine pd_one ?_
    refine pd_not ?_
    refine pd_meth (k := 3) ?_ (by intro r hr; simp only [List.mem_cons, List.not_mem_nil, or_false] at hr; subst hr; exact (mo_Ratio_Ratio_is_below_2 T (by decide))) (hr.mono (by decide)) ?_
    refine pd_make (k := 3) (kt_Ratio_1 T) (hr.mono (by decide)) ?_
    refine pda_c ?_ pda_nil
    exact (pd_var 2)
    refine pda_c ?_ pda_nil
    exact (pd_var 0))
theorem ft_is_between_3 (T : Txt K mg c) : FT P w K mg base 5 "is_between" (padF 3 [] (F_is_between c)) := by
  obtain ⟨f, fd, hm, FD⟩ := T.fn_is_between
  exact ⟨f, fd, _, _, _, hm, FD.kp, ok_is_between T FD, (Bd.nil (FD.bindsN (fun _ _ _ _ _ _ us hl => match us, hl with | [_, _, _], _ => rfl))), rfl⟩
theorem ok_RatioD_boolD (T : Txt K mg c) {f : Addr} {fd : FuncData} (FD : FunD K "__bool__" "Ratio.__bool__" (defArgs s_RatioD_boolD) (defBody s_RatioD_boolD) (defScope s_RatioD_boolD) [] [] f fd) : FnD P w K mg base 1 f fd ["self"] (F_RatioD_boolD c) := fnD_of (N := ["self"]) FD sc_RatioD_boolD (fun cdv A outer s H E hr => by
    refine pds_one ?_
    refine pds_ret ?_
    refine pd_bt oc_bool T.b_bool (by decide +kernel) ?_
    refine pda_c ?_ pda_nil
    refine pd_fld ?_ (by intro r hr; simp only [List.mem_cons, List.not_mem_nil, or_false] at hr; subst hr; exact T.fl_Ratio_own_top)
    exact (pd_var 0))
theorem mt_Ratio_RatioD_boolD_1 (T : Txt K mg c) : MT P w K mg base 1 "__bool__" c.cRatio (padF 1 [] (F_RatioD_boolD c)) := by
  obtain ⟨f, fd, h0, hf, FD⟩ := T.me_RatioD_boolD
  exact ⟨f, fd, _, _, _, h0, hf, FD.kp, ok_RatioD_boolD T FD, (Bd.nil (FD.bindsN (fun _ _ _ _ _ _ us hl => match us, hl with | [_], _ => rfl))), rfl⟩
theorem mo_Ratio_RatioD_boolD_1 (T : Txt K mg c) {k : Nat} (hk : 1 ≤ k) : MethOk P w K mg base k "__bool__" c.kRatio (padF 1 [] (F_RatioD_boolD c)) := ⟨T.cl_Ratio, (mt_Ratio_RatioD_boolD_1 T).mono hk, (show ("__bool__" : Str) ∉ nsRatio from by decide +kernel)⟩
theorem ok_RatioD_eqD (T : Txt K mg c) {f : Addr} {fd : FuncData} (FD : FunD K "__eq__" "Ratio.__eq__" (defArgs s_RatioD_eqD) (defBody s_RatioD_eqD) (defScope s_RatioD_eqD) [] [] f fd) : FnD P w K mg base 3 f fd ["self", "other"] (F_RatioD_eqD c) := fnD_of (N := ["self", "other"]) FD sc_RatioD_eqD (fun cdv A outer s H E hr => by
    refine pds_one ?_
    refine pds_ret ?_
    refine pd_and ?_ ?_
    refine pd_isi ?_ (ClsV.own _) (pd_glob (RepA.val _) T.gc_Ratio rfl) T.ans_Ratio__Ratio T.b_isinstance
    exact (pd_var 1)
    refine pd_and ?_ ?_
    refine pd_cmp (od_eq hr.units) ?_ ?_
    refine pd_fld ?_ (by intro r hr; simp only [List.mem_cons, List.not_mem_nil, or_false] at hr; subst hr; exact T.fl_Ratio_own_top)
    exact (pd_var 0)
    refine pd_prop (k := 1) ?_ (by intro r hr; simp only [List.mem_cons, List.not_mem_nil, or_false] at hr; subst hr; exact (po_Ratio_Ratio_top T (by decide))) (hr.mono (by decide))
    exact (pd_var 1)
    refine pd_one ?_
    refine pd_cmp (od_eq hr.units) ?_ ?_
    refine pd_fld ?_ (by intro r hr; simp only [List.mem_cons, List.not_mem_nil, or_false] at hr; subst hr; exact T.fl_Ratio_own_bottom)
    exact (pd_var 0)
    refine pd_prop (k := 1) ?_ (by intro r hr; simp only [List.mem_cons, List.not_mem_nil, or_false] at hr; subst hr; exact (po_Ratio_Ratio_bottom T (by decide))) (hr.mono (by decide))
    exact (pd_var 1))
theorem mt_Ratio_RatioD_eqD_2 (T : Txt K mg c) : MT P w K mg base 3 "__eq__" c.cRatio (padF 2 [] (F_RatioD_eqD c)) := by
  obtain ⟨f, fd, h0, hf, FD⟩ := T.me_RatioD_eqD
  exact ⟨f, fd, _, _, _, h0, hf, FD.kp, ok_RatioD_eqD T FD, (Bd.nil (FD.bindsN (fun _ _ _ _ _ _ us hl => match us, hl with | [_, _], _ => rfl))), rfl⟩
theorem eqo_0 (T : Txt K mg c) {k : Nat} (hk : 3 ≤ k) : EqOk P w K mg base k (c.kRatio, padF 2 [] (F_RatioD_eqD c), [(.own c.cRatio)]) := ⟨(mt_Ratio_RatioD_eqD_2 T).mono hk, by
  intro t ht; simp only [List.mem_cons, List.not_mem_nil, or_false] at ht; subst ht; exact T.nf_Ratio_ownccRatio⟩
theorem eqo_1 (T : Txt K mg c) {k : Nat} (hk : 3 ≤ k) : EqOk P w K mg base k (c.kRatio, padF 2 [] (F_RatioD_eqD c), [(.own c.cRatio), (.prim "NoneType"), (.prim "str")]) := ⟨(mt_Ratio_RatioD_eqD_2 T).mono hk, by
  intro t ht; simp only [List.mem_cons, List.not_mem_nil, or_false] at ht; rcases ht with rfl | rfl | rfl <;> first | exact T.nf_Ratio_ownccRatio | exact T.nf_Ratio_primNoneType | exact T.nf_Ratio_primstr⟩
theorem eqo_2 (T : Txt K mg c) {k : Nat} (hk : 3 ≤ k) : EqOk P w K mg base k (c.kRatio, padF 2 [] (F_RatioD_eqD c), [(.prim "str")]) := ⟨(mt_Ratio_RatioD_eqD_2 T).mono hk, by
  intro t ht; simp only [List.mem_cons, List.not_mem_nil, or_false] at ht; subst ht; exact T.nf_Ratio_primstr⟩
theorem eqo_3 (T : Txt K mg c) {k : Nat} (hk : 3 ≤ k) : EqOk P w K mg base k (c.kRatio, padF 2 [] (F_RatioD_eqD c), [(.own c.cRatio), (.prim "list"), (.prim "tuple")]) := ⟨(mt_Ratio_RatioD_eqD_2 T).mono hk, by
  intro t ht; simp only [List.mem_cons, List.not_mem_nil, or_false] at ht; rcases ht with rfl | rfl | rfl <;> first | exact T.nf_Ratio_ownccRatio | exact T.nf_Ratio_primlist | exact T.nf_Ratio_primtuple⟩
theorem mo_Ratio_RatioD_eqD_2 (T : Txt K mg c) {k : Nat} (hk : 3 ≤ k) : MethOk P w K mg base k "__eq__" c.kRatio (padF 2 [] (F_RatioD_eqD c)) := ⟨T.cl_Ratio, (mt_Ratio_RatioD_eqD_2 T).mono hk, (show ("__eq__" : Str) ∉ nsRatio from by decide +kernel)⟩
theorem ok_need_share (T : Txt K mg c) {f : Addr} {fd : FuncData} (FD : FunD K "need_share" "need_share" (defArgs s_need_share) (defBody s_need_share) (defScope s_need_share) [] [] f fd) : FnD P w K mg base 6 f fd ["value"] (F_need_share c) := fnD_of (N := ["value"]) FD sc_need_share (fun cdv A outer s H E hr => by
    refine pds_one ?_
    refine pds_if ?_ ?_ pds_nil
    refine PDW.pt ?_
    refine pdw_or ?_ ?_
    refine pdt_not ?_
    refine pdt_val ?_
    refine pd_fun (ft_is_between_3 T) (hr.mono (by decide)) ?_
    refine pda_c ?_ ?_
    exact (pd_var 0)
    refine pda_int ?_
    exact (pda_int pda_nil)
    refine pdw_or ?_ ?_
    refine pdt_not ?_
    refine pdt_truthO (k := 1) ?_ (by intro r hr; simp only [List.mem_cons, List.not_mem_nil, or_false] at hr; subst hr; exact (((mt_Ratio_RatioD_boolD_1 T)).mono (by decide))) (hr.mono (by decide))
    exact (pd_var 0)
    refine pdw_or1 ?_
    refine pdt_cmp (od_ownEq (k := 3) (by intro r hr; simp only [List.mem_cons, List.not_mem_nil, or_false] at hr; subst hr; exact (eqo_0 T (by decide))) (hr.mono (by decide))) ?_ ?_
    exact (pd_var 0)
    refine pd_make (k := 3) (kt_Ratio_1 T) (hr.mono (by decide)) ?_
    exact (pda_int pda_nil)
    exact (pds_one pds_stuck))
theorem ft_need_share_1 (T : Txt K mg c) : FT P w K mg base 6 "need_share" (padF 1 [] (F_need_share c)) := by
  obtain ⟨f, fd, hm, FD⟩ := T.fn_need_share
  exact ⟨f, fd, _, _, _, hm, FD.kp, ok_need_share T FD, (Bd.nil (FD.bindsN (fun _ _ _ _ _ _ us hl => match us, hl with | [_], _ => rfl))), rfl⟩
theorem ok_is_ratio (T : Txt K mg c) {f : Addr} {fd : FuncData} (FD : FunD K "is_ratio" "is_ratio" (defArgs s_is_ratio) (defBody s_is_ratio) (defScope s_is_ratio) [] [] f fd) : FnD P w K mg base 1 f fd ["value"] (F_is_ratio c) := fnD_of (N := ["value"]) FD sc_is_ratio (fun cdv A outer s H E hr => by
    refine pds_one ?_
    refine pds_ret ?_
    refine pd_isi ?_ (ClsV.own _) (pd_glob (RepA.val _) T.gc_Ratio rfl) T.ans_Ratio__Ratio T.b_isinstance
    exact (pd_var 0))
theorem ft_is_ratio_1 (T : Txt K mg c) : FT P w K mg base 1 "is_ratio" (padF 1 [] (F_is_ratio c)) := by
  obtain ⟨f, fd, hm, FD⟩ := T.fn_is_ratio
  exact ⟨f, fd, _, _, _, hm, FD.kp, ok_is_ratio T FD, (Bd.nil (FD.bindsN (fun _ _ _ _ _ _ us hl => match us, hl with | [_], _ => rfl))), rfl⟩
theorem ok_is_fact (T : Txt K mg c) {f : Addr} {fd : FuncData} (FD : FunD K "is_fact" "is_fact" (defArgs s_is_fact) (defBody s_is_fact) (defScope s_is_fact) [] [] f fd) : FnD P w K mg base 6 f fd ["value", "names"] (F_is_fact c) := fnD_of (N := ["value", "names", "held", "name", "low", "high", "bound"]) FD sc_is_fact (fun cdv A outer s H E hr => by
    refine pds_cons ?_ ?_
    refine pds_if ?_ ?_ pds_nil
    refine PDW.pt ?_
    refine pdw_or ?_ ?_
    refine pdt_not ?_
    refine pdt_val ?_
    refine pd_isi ?_ (ClsV.ty _) (pd_bltn (v := .ty "tuple") (u := .type "tuple") T.b_tuple (by decide +kernel) rfl) T.ans_tuple T.b_isinstance
    exact (pd_var 0)
    refine pdw_or1 ?_
    refine pdt_cmp od_notIn ?_ ?_ (by rfl)
    refine pd_bc oc_len T.b_len (by decide +kernel) ?_
    refine pda_c ?_ pda_nil
    exact (pd_var 0)
    refine pd_tup ?_
    refine pda_int ?_
    exact (pda_int pda_nil)
    refine pds_one ?_
    exact (pds_ret pd_bl)
    refine pds_cons ?_ ?_
    refine pds_if ?_ ?_ pds_nil
    refine PDW.pt ?_
    refine pdw_or ?_ ?_
    refine pdt_not ?_
    refine pdt_val ?_
    refine pd_isi ?_ (ClsV.ty _) (pd_bltn (v := .ty "str") (u := .type "str") T.b_str (by decide +kernel) rfl) T.ans_str__Ratio T.b_isinstance
    refine pd_ix ?_ pd_int
    exact (pd_var 0)
    refine pdw_or1 ?_
    refine pdt_cmp od_notIn ?_ (let ⟨a, h, t⟩ := T.g_KINDS; pd_glob (RepA.strs (zs := ["out", "back"]) t) h rfl) (by rfl)
    refine pd_ix ?_ pd_int
    exact (pd_var 0)
    refine pds_one ?_
    exact (pds_ret pd_bl)
    refine pds_cons ?_ ?_
    refine pds_set (i := 2) ?_ sc_is_fact.nd
    refine pd_slT ?_ ?_ ?_
    exact (pd_var 0)
    exact (pdo_some pd_int)
    refine pdo_some ?_
    exact (pd_negI pd_int)
    refine pds_cons ?_ ?_
    refine pds_if ?_ ?_ pds_nil
    refine PDW.pt ?_
    refine pdw_or ?_ ?_
    refine pdt_not ?_
    refine pdt_val ?_
    refine pd_bc (oc_all (by rfl)) T.b_all (by decide +kernel) ?_
    refine pda_c ?_ pda_nil
    refine pd_lc ?_ sc_is_fact.nd (blkOk_by (own := [("name", 3)]) (by rfl)) (fun _ _ _ _ _ => (pdg_name 3 sc_is_fact.nd)) ?_ ?_ (by rfl)
    refine pdi_tup ?_
    exact (pd_var 2)
    intro _ _ _ _ _
    exact (pdts_nil)
    intro _ _ _ _ _
    refine pd_and ?_ ?_
    refine pd_isi ?_ (ClsV.ty _) (pd_bltn (v := .ty "str") (u := .type "str") T.b_str (by decide +kernel) rfl) T.ans_str__Ratio T.b_isinstance
    exact (pd_var 3)
    refine pd_one ?_
    refine pd_cmp od_in ?_ ?_ (by rfl)
    exact (pd_var 3)
    exact (pd_var 1)
    refine pdw_or1 ?_
    refine PDW.pt ?_
    refine pdw_and ?_ ?_
    refine pdt_cmp (od_eq hr.units) ?_ pd_int
    refine pd_bc oc_len T.b_len (by decide +kernel) ?_
    refine pda_c ?_ pda_nil
    exact (pd_var 2)
    refine pdw_and1 ?_
    refine pdt_cmp (od_or (od_or (od_ownEq (k := 3) (by intro r hr; simp only [List.mem_cons, List.not_mem_nil, or_false] at hr; subst hr; exact (eqo_1 T (by decide))) (hr.mono (by decide))) (od_eq hr.units)) (od_eqX (k := 0) (by intro r hr; exact nomatch hr) 5 (hr.mono (by decide)))) ?_ ?_
    refine pd_ix ?_ pd_int
    exact (pd_var 2)
    refine pd_ix ?_ pd_int
    exact (pd_var 2)
    refine pds_one ?_
    exact (pds_ret pd_bl)
    refine pds_cons ?_ ?_
    refine pds_par (i := 4) (j := 5) ?_ (by rfl) sc_is_fact.nd
    refine pda_c ?_ ?_
    refine pd_ix ?_ ?_
    exact (pd_var 0)
    exact (pd_negI pd_int)
    refine pda_c ?_ pda_nil
    refine pd_ix ?_ ?_
    exact (pd_var 0)
    exact (pd_negI pd_int)
    refine pds_cons ?_ ?_
    refine pds_if ?_ ?_ pds_nil
    refine pdt_not ?_
    refine pdt_val ?_
    refine pd_bc (oc_all (by rfl)) T.b_all (by decide +kernel) ?_
    refine pda_c ?_ pda_nil
    refine pd_lc ?_ sc_is_fact.nd (blkOk_by (own := [("bound", 6)]) (by rfl)) (fun _ _ _ _ _ => (pdg_name 6 sc_is_fact.nd)) ?_ ?_ (by rfl)
    refine pdi_tup ?_
    refine pd_tup ?_
    refine pda_c ?_ ?_
    exact (pd_var 4)
    refine pda_c ?_ pda_nil
    exact (pd_var 5)
    intro _ _ _ _ _
    exact (pdts_nil)
    intro _ _ _ _ _
    refine pd_or ?_ ?_
    refine pd_cmp od_isN ?_ pd_non
    exact (pd_var 6)
    refine pd_one ?_
    refine pd_fun (ft_is_ratio_1 T) (hr.mono (by decide)) ?_
    refine pda_c ?_ pda_nil
    exact (pd_var 6)
    refine pds_one ?_
    exact (pds_ret pd_bl)
    refine pds_one ?_
    refine pds_ret ?_
    refine pd_or ?_ ?_
    refine pd_cmp od_isN ?_ pd_non
    exact (pd_var 4)
    refine pd_or ?_ ?_
    refine pd_cmp od_isN ?_ pd_non
    exact (pd_var 5)
    refine pd_one ?_
    refine pd_notO (k := 0) ?_ (by intro r hr; exact nomatch hr) (hr.mono (by decide))
    refine pd_meth (k := 3) ?_ (by intro r hr; simp only [List.mem_cons, List.not_mem_nil, or_false] at hr; subst hr; exact (mo_Ratio_Ratio_is_below_2 T (by decide))) (hr.mono (by decide)) ?_
    exact (pd_var 5)
    refine pda_c ?_ pda_nil
    exact (pd_var 4))
theorem ft_is_fact_2 (T : Txt K mg c) : FT P w K mg base 6 "is_fact" (padF 2 [] (F_is_fact c)) := by
  obtain ⟨f, fd, hm, FD⟩ := T.fn_is_fact
  exact ⟨f, fd, _, _, _, hm, FD.kp, ok_is_fact T FD, (Bd.nil (FD.bindsN (fun _ _ _ _ _ _ us hl => match us, hl with | [_, _], _ => rfl))), rfl⟩
theorem ok_RatioD_negD (T : Txt K mg c) {f : Addr} {fd : FuncData} (FD : FunD K "__neg__" "Ratio.__neg__" (defArgs s_RatioD_negD) (defBody s_RatioD_negD) (defScope s_RatioD_negD) [] [] f fd) : FnD P w K mg base 5 f fd ["self"] (F_RatioD_negD c) := fnD_of (N := ["self"]) FD sc_RatioD_negD (fun cdv A outer s H E hr => by
    refine pds_one ?_
    refine pds_ret ?_
    refine pd_make (k := 3) (kt_Ratio_2 T) (hr.mono (by decide)) ?_
    refine pda_c ?_ ?_
    refine pd_negI ?_
    refine pd_fld ?_ (by intro r hr; simp only [List.mem_cons, List.not_mem_nil, or_false] at hr; subst hr; exact T.fl_Ratio_own_top)
    exact (pd_var 0)
    refine pda_c ?_ pda_nil
    refine pd_fld ?_ (by intro r hr; simp only [List.mem_cons, List.not_mem_nil, or_false] at hr; subst hr; exact T.fl_Ratio_own_bottom)
    exact (pd_var 0))
theorem mt_Ratio_RatioD_negD_1 (T : Txt K mg c) : MT P w K mg base 5 "__neg__" c.cRatio (padF 1 [] (F_RatioD_negD c)) := by
  obtain ⟨f, fd, h0, hf, FD⟩ := T.me_RatioD_negD
  exact ⟨f, fd, _, _, _, h0, hf, FD.kp, ok_RatioD_negD T FD, (Bd.nil (FD.bindsN (fun _ _ _ _ _ _ us hl => match us, hl with | [_], _ => rfl))), rfl⟩
theorem mo_Ratio_RatioD_negD_1 (T : Txt K mg c) {k : Nat} (hk : 5 ≤ k) : MethOk P w K mg base k "__neg__" c.kRatio (padF 1 [] (F_RatioD_negD c)) := ⟨T.cl_Ratio, (mt_Ratio_RatioD_negD_1 T).mono hk, (show ("__neg__" : Str) ∉ nsRatio from by decide +kernel)⟩
theorem ok_bounds_of (T : Txt K mg c) {f : Addr} {fd : FuncData} (FD : FunD K "bounds_of" "bounds_of" (defArgs s_bounds_of) (defBody s_bounds_of) (defScope s_bounds_of) [] [] f fd) : FnD P w K mg base 6 f fd ["kind", "facts", "names"] (F_bounds_of c) := FnD.zap (fnD_of (N := ["kind", "facts", "names", "found", "at", "fact", "spots", "name", "one", "other"]) FD sc_bounds_of (fun cdv A outer s H E hr => by
    refine pds_cons ?_ ?_
    refine pds_setLcM (i := 3) ?_ sc_bounds_of.nd (blkOk_by (own := [("at", 4)]) (by rfl)) (fun _ _ _ _ _ => (pdg_name 4 sc_bounds_of.nd)) ?_ ?_ (by rfl) (sw_true rfl rfl rfl (by decide +kernel))
    refine pdi_range1 T.b_range ?_
    refine pda_c ?_ pda_nil
    refine pd_bc oc_len T.b_len (by decide +kernel) ?_
    refine pda_c ?_ pda_nil
    exact (pd_var 2)
    intro _ _ _ _ _
    exact (pdts_nil)
    intro _ _ _ _ _
    refine pd_tup ?_
    refine pda_c ?_ ?_
    refine pd_op od_add ?_ pd_int
    exact (pd_var 4)
    refine pda_int ?_
    refine pda_c ?_ pda_nil
    refine pd_make (k := 3) (kt_Ratio_1 T) (hr.mono (by decide)) ?_
    exact (pda_int pda_nil)
    refine pds_cons ?_ ?_
    refine pds_for ?_ (pdg_name 5 sc_bounds_of.nd) ?_ (by rfl) (passes_of rfl)
    refine pdi_list ?_
    exact (pd_var 1)
    refine pds_one ?_
    refine pds_if ?_ ?_ pds_nil
    refine pdt_cmp (od_or (od_ownEq (k := 3) (by intro r hr; simp only [List.mem_cons, List.not_mem_nil, or_false] at hr; subst hr; exact (eqo_2 T (by decide))) (hr.mono (by decide))) (od_eq hr.units)) ?_ ?_
    refine pd_ix ?_ pd_int
    exact (pd_var 5)
    exact (pd_var 0)
    refine pds_cons ?_ ?_
    refine pds_setLc (i := 6) ?_ sc_bounds_of.nd (blkOk_by (own := [("name", 7)]) (by rfl)) (fun _ _ _ _ _ => (pdg_name 7 sc_bounds_of.nd)) ?_ ?_ (by rfl) (sw_true rfl rfl rfl (by decide +kernel))
    refine pdi_tup ?_
    refine pd_slT ?_ ?_ ?_
    exact (pd_var 5)
    exact (pdo_some pd_int)
    refine pdo_some ?_
    exact (pd_negI pd_int)
    intro _ _ _ _ _
    exact (pdts_nil)
    intro _ _ _ _ _
    refine pd_op od_add ?_ pd_int
    refine pd_index ?_ ?_
    exact (pd_var 2)
    refine pda_c ?_ pda_nil
    exact (pd_var 7)
    refine pds_cons ?_ ?_
    refine pds_asg ?_ (pdg_tupL (n := 2) (by rfl) (pdgs_cons (pdg_name 8 sc_bounds_of.nd) (pdgs_cons (pdg_name 9 sc_bounds_of.nd) pdgs_nil)))
    refine pd_if ?_ ?_ ?_
    refine pdt_cmp (od_eq hr.units) ?_ pd_int
    refine pd_bc oc_len T.b_len (by decide +kernel) ?_
    refine pda_c ?_ pda_nil
    exact (pd_var 6)
    exact (pd_var 6)
    refine pd_tup ?_
    refine pda_int ?_
    refine pda_c ?_ pda_nil
    refine pd_ix ?_ pd_int
    exact (pd_var 6)
    refine pds_cons ?_ ?_
    refine pds_if ?_ ?_ pds_nil
    refine pdt_cmp od_notN ?_ pd_non
    refine pd_ix ?_ ?_
    exact (pd_var 5)
    exact (pd_negI pd_int)
    refine pds_one ?_
    refine pds_expr ?_
    refine pd_append ?_ ?_
    exact (pd_var 3)
    refine pda_c ?_ pda_nil
    refine pd_tup ?_
    refine pda_c ?_ ?_
    exact (pd_var 8)
    refine pda_c ?_ ?_
    exact (pd_var 9)
    refine pda_c ?_ pda_nil
    refine pd_ix ?_ ?_
    exact (pd_var 5)
    exact (pd_negI pd_int)
    refine pds_one ?_
    refine pds_if ?_ ?_ pds_nil
    refine pdt_cmp od_notN ?_ pd_non
    refine pd_ix ?_ ?_
    exact (pd_var 5)
    exact (pd_negI pd_int)
    refine pds_one ?_
    refine pds_expr ?_
    refine pd_append ?_ ?_
    exact (pd_var 3)
    refine pda_c ?_ pda_nil
    refine pd_tup ?_
    refine pda_c ?_ ?_
    exact (pd_var 9)
    refine pda_c ?_ ?_
    exact (pd_var 8)
    refine pda_c ?_ pda_nil
    refine pd_neg ?_ (mt_Ratio_RatioD_negD_1 T) (hr.mono (by decide))
    refine pd_ix ?_ ?_
    exact (pd_var 5)
    exact (pd_negI pd_int)
    refine pds_one ?_
    refine pds_ret ?_
    exact (pd_var 3)))
theorem ft_bounds_of_3 (T : Txt K mg c) : FT P w K mg base 6 "bounds_of" (padF 3 [] (F_bounds_of c)) := by
  obtain ⟨f, fd, hm, FD⟩ := T.fn_bounds_of
  exact ⟨f, fd, _, _, _, hm, FD.kp, ok_bounds_of T FD, (Bd.nil (FD.bindsN (fun _ _ _ _ _ _ us hl => match us, hl with | [_, _, _], _ => rfl))), rfl⟩
theorem ok_RatioD_addD (T : Txt K mg c) {f : Addr} {fd : FuncData} (FD : FunD K "__add__" "Ratio.__add__" (defArgs s_RatioD_addD) (defBody s_RatioD_addD) (defScope s_RatioD_addD) [] [] f fd) : FnD P w K mg base 5 f fd ["self", "other"] (F_RatioD_addD c) := fnD_of (N := ["self", "other"]) FD sc_RatioD_addD (fun cdv A outer s H E hr => by
    refine pds_one ?_
    refine pds_ret ?_
    refine pd_make (k := 3) (kt_Ratio_2 T) (hr.mono (by decide)) ?_
    refine pda_c ?_ ?_
    refine pd_op od_add ?_ ?_
    refine pd_op od_mul ?_ ?_
    refine pd_fld ?_ (by intro r hr; simp only [List.mem_cons, List.not_mem_nil, or_false] at hr; subst hr; exact T.fl_Ratio_own_top)
    exact (pd_var 0)
    refine pd_prop (k := 1) ?_ (by intro r hr; simp only [List.mem_cons, List.not_mem_nil, or_false] at hr; subst hr; exact (po_Ratio_Ratio_bottom T (by decide))) (hr.mono (by decide))
    exact (pd_var 1)
    refine pd_op od_mul ?_ ?_
    refine pd_prop (k := 1) ?_ (by intro r hr; simp only [List.mem_cons, List.not_mem_nil, or_false] at hr; subst hr; exact (po_Ratio_Ratio_top T (by decide))) (hr.mono (by decide))
    exact (pd_var 1)
    refine pd_fld ?_ (by intro r hr; simp only [List.mem_cons, List.not_mem_nil, or_false] at hr; subst hr; exact T.fl_Ratio_own_bottom)
    exact (pd_var 0)
    refine pda_c ?_ pda_nil
    refine pd_op od_mul ?_ ?_
    refine pd_fld ?_ (by intro r hr; simp only [List.mem_cons, List.not_mem_nil, or_false] at hr; subst hr; exact T.fl_Ratio_own_bottom)
    exact (pd_var 0)
    refine pd_prop (k := 1) ?_ (by intro r hr; simp only [List.mem_cons, List.not_mem_nil, or_false] at hr; subst hr; exact (po_Ratio_Ratio_bottom T (by decide))) (hr.mono (by decide))
    exact (pd_var 1))
theorem mt_Ratio_RatioD_addD_2 (T : Txt K mg c) : MT P w K mg base 5 "__add__" c.cRatio (padF 2 [] (F_RatioD_addD c)) := by
  obtain ⟨f, fd, h0, hf, FD⟩ := T.me_RatioD_addD
  exact ⟨f, fd, _, _, _, h0, hf, FD.kp, ok_RatioD_addD T FD, (Bd.nil (FD.bindsN (fun _ _ _ _ _ _ us hl => match us, hl with | [_, _], _ => rfl))), rfl⟩
theorem mo_Ratio_RatioD_addD_2 (T : Txt K mg c) {k : Nat} (hk : 5 ≤ k) : MethOk P w K mg base k "__add__" c.kRatio (padF 2 [] (F_RatioD_addD c)) := ⟨T.cl_Ratio, (mt_Ratio_RatioD_addD_2 T).mono hk, (show ("__add__" : Str) ∉ nsRatio from by decide +kernel)⟩
theorem ok_closed_bounds (T : Txt K mg c) {f : Addr} {fd : FuncData} (FD : FunD K "closed_bounds" "closed_bounds" (defArgs s_closed_bounds) (defBody s_closed_bounds) (defScope s_closed_bounds) [] [] f fd) : FnD P w K mg base 7 f fd ["kind", "facts", "names"] (F_closed_bounds c) := FnD.zapN (fnD_of (N := ["kind", "facts", "names", "many", "table", "other", "one", "most", "middle", "front", "behind", "at"]) FD sc_closed_bounds (fun cdv A outer s H E hr => by
    refine pds_cons ?_ ?_
    refine pds_set (i := 3) ?_ sc_closed_bounds.nd
    refine pd_op od_add ?_ pd_int
    refine pd_bc oc_len T.b_len (by decide +kernel) ?_
    refine pda_c ?_ pda_nil
    exact (pd_var 2)
    refine pds_cons ?_ ?_
    refine pds_set (i := 4) ?_ sc_closed_bounds.nd
    refine pd_lc ?_ sc_closed_bounds.nd (blkOk_by (own := [("one", 6)]) (by rfl)) (fun _ _ _ _ _ => (pdg_name 6 sc_closed_bounds.nd)) ?_ ?_ (by rfl)
    refine pdi_range1 T.b_range ?_
    refine pda_c ?_ pda_nil
    exact (pd_var 3)
    intro _ _ _ _ _
    exact (pdts_nil)
    intro _ _ _ _ _
    refine pd_lcM ?_ sc_closed_bounds.nd (blkOk_by (own := [("other", 5)]) (by rfl)) (fun _ _ _ _ _ => (pdg_name 5 sc_closed_bounds.nd)) ?_ ?_ (by rfl)
    refine pdi_range1 T.b_range ?_
    refine pda_c ?_ pda_nil
    exact (pd_var 3)
    intro _ _ _ _ _
    exact (pdts_nil)
    intro _ _ _ _ _
    refine pd_if ?_ ?_ pd_non
    refine pdt_cmp (od_eq hr.units) ?_ ?_
    exact (pd_var 6)
    exact (pd_var 5)
    refine pd_make (k := 3) (kt_Ratio_1 T) (hr.mono (by decide)) ?_
    exact (pda_int pda_nil)
    refine pds_cons ?_ ?_
    refine pds_forS ?_ (pdg_tup (n := 3) (by rfl) (pdgs_cons (pdg_name 6 sc_closed_bounds.nd) (pdgs_cons (pdg_name 5 sc_closed_bounds.nd) (pdgs_cons (pdg_name 7 sc_closed_bounds.nd) pdgs_nil)))) ?_ (by rfl) (passes_of rfl)
    refine pd_fun (ft_bounds_of_3 T) (hr.mono (by decide)) ?_
    refine pda_c ?_ ?_
    exact (pd_var 0)
    refine pda_c ?_ ?_
    exact (pd_var 1)
    refine pda_c ?_ pda_nil
    exact (pd_var 2)
    refine pds_one ?_
    refine pds_if ?_ ?_ pds_nil
    refine PDW.pt ?_
    refine pdw_or ?_ ?_
    refine pdt_cmp od_isN ?_ pd_non
    refine pd_ix ?_ ?_
    refine pd_ix ?_ ?_
    exact (pd_var 4)
    exact (pd_var 6)
    exact (pd_var 5)
    refine pdw_or1 ?_
    refine pdt_truth ?_
    refine pd_meth (k := 3) ?_ (by intro r hr; simp only [List.mem_cons, List.not_mem_nil, or_false] at hr; subst hr; exact (mo_Ratio_Ratio_is_below_2 T (by decide))) (hr.mono (by decide)) ?_
    exact (pd_var 7)
    refine pda_c ?_ pda_nil
    refine pd_ix ?_ ?_
    refine pd_ix ?_ ?_
    exact (pd_var 4)
    exact (pd_var 6)
    exact (pd_var 5)
    refine pds_one ?_
    refine pds_putI ?_ ?_ ?_
    exact (pd_var 7)
    refine pd_ix ?_ ?_
    exact (pd_var 4)
    exact (pd_var 6)
    exact (pd_var 5)
    refine pds_cons ?_ ?_
    refine pds_for ?_ (pdg_name 8 sc_closed_bounds.nd) ?_ (by rfl) (passes_of rfl)
    refine pdi_range1 T.b_range ?_
    refine pda_c ?_ pda_nil
    exact (pd_var 3)
    refine pds_one ?_
    refine pds_for ?_ (pdg_name 6 sc_closed_bounds.nd) ?_ (by rfl) (passes_of rfl)
    refine pdi_range1 T.b_range ?_
    refine pda_c ?_ pda_nil
    exact (pd_var 3)
    refine pds_one ?_
    refine pds_for ?_ (pdg_name 5 sc_closed_bounds.nd) ?_ (by rfl) (passes_of rfl)
    refine pdi_range1 T.b_range ?_
    refine pda_c ?_ pda_nil
    exact (pd_var 3)
    refine pds_cons ?_ ?_
    refine pds_par (i := 9) (j := 10) ?_ (by rfl) sc_closed_bounds.nd
    refine pda_c ?_ ?_
    refine pd_ix ?_ ?_
    refine pd_ix ?_ ?_
    exact (pd_var 4)
    exact (pd_var 6)
    exact (pd_var 8)
    refine pda_c ?_ pda_nil
    refine pd_ix ?_ ?_
    refine pd_ix ?_ ?_
    exact (pd_var 4)
    exact (pd_var 8)
    exact (pd_var 5)
    refine pds_one ?_
    refine pds_if ?_ ?_ pds_nil
    refine PDW.pt ?_
    refine pdw_and ?_ ?_
    refine pdt_cmp od_notN ?_ pd_non
    exact (pd_var 9)
    refine pdw_and1 ?_
    refine pdt_cmp od_notN ?_ pd_non
    exact (pd_var 10)
    refine pds_one ?_
    refine pds_if ?_ ?_ pds_nil
    refine PDW.pt ?_
    refine pdw_or ?_ ?_
    refine pdt_cmp od_isN ?_ pd_non
    refine pd_ix ?_ ?_
    refine pd_ix ?_ ?_
    exact (pd_var 4)
    exact (pd_var 6)
    exact (pd_var 5)
    refine pdw_or1 ?_
    refine pdt_truth ?_
    refine pd_meth (k := 3) ?_ (by intro r hr; simp only [List.mem_cons, List.not_mem_nil, or_false] at hr; subst hr; exact (mo_Ratio_Ratio_is_below_2 T (by decide))) (hr.mono (by decide)) ?_
    refine pd_op (od_or od_addS (od_own (mt_Ratio_RatioD_addD_2 T) T.sf_Ratio (hr.mono (by decide)))) ?_ ?_
    exact (pd_var 9)
    exact (pd_var 10)
    refine pda_c ?_ pda_nil
    refine pd_ix ?_ ?_
    refine pd_ix ?_ ?_
    exact (pd_var 4)
    exact (pd_var 6)
    exact (pd_var 5)
    refine pds_one ?_
    refine pds_putI ?_ ?_ ?_
    refine pd_op (od_or od_addS (od_own (mt_Ratio_RatioD_addD_2 T) T.sf_Ratio (hr.mono (by decide)))) ?_ ?_
    exact (pd_var 9)
    exact (pd_var 10)
    refine pd_ix ?_ ?_
    exact (pd_var 4)
    exact (pd_var 6)
    exact (pd_var 5)
    refine pds_cons ?_ ?_
    refine pds_if ?_ ?_ pds_nil
    refine pdt_val ?_
    refine pd_bc (oc_any (by rfl)) T.b_any (by decide +kernel) ?_
    refine pda_c ?_ pda_nil
    refine pd_lc ?_ sc_closed_bounds.nd (blkOk_by (own := [("at", 11)]) (by rfl)) (fun _ _ _ _ _ => (pdg_name 11 sc_closed_bounds.nd)) ?_ ?_ (by rfl)
    refine pdi_range1 T.b_range ?_
    refine pda_c ?_ pda_nil
    exact (pd_var 3)
    intro _ _ _ _ _
    exact (pdts_nil)
    intro _ _ _ _ _
    refine pd_meth (k := 3) ?_ (by intro r hr; simp only [List.mem_cons, List.not_mem_nil, or_false] at hr; subst hr; exact (mo_Ratio_Ratio_is_below_2 T (by decide))) (hr.mono (by decide)) ?_
    refine pd_ix ?_ ?_
    refine pd_ix ?_ ?_
    exact (pd_var 4)
    exact (pd_var 11)
    exact (pd_var 11)
    refine pda_c ?_ pda_nil
    refine pd_make (k := 3) (kt_Ratio_1 T) (hr.mono (by decide)) ?_
    exact (pda_int pda_nil)
    exact (pds_one pds_stuck)
    refine pds_one ?_
    refine pds_ret ?_
    exact (pd_var 4)))
theorem ft_closed_bounds_3 (T : Txt K mg c) : FT P w K mg base 7 "closed_bounds" (padF 3 [] (F_closed_bounds c)) := by
  obtain ⟨f, fd, hm, FD⟩ := T.fn_closed_bounds
  exact ⟨f, fd, _, _, _, hm, FD.kp, ok_closed_bounds T FD, (Bd.nil (FD.bindsN (fun _ _ _ _ _ _ us hl => match us, hl with | [_, _, _], _ => rfl))), rfl⟩
theorem ok_SurveyD_initD (T : Txt K mg c) {f : Addr} {fd : FuncData} (FD : FunD K "__init__" "Survey.__init__" (defArgs s_SurveyD_initD) (defBody s_SurveyD_initD) (defScope s_SurveyD_initD) [.ref c.e_SurveyD_initD] [] f fd) : FnD P w K mg base 8 f fd ["self", "shares", "facts"] (F_SurveyD_initD c) := fnD_of (N := ["self", "shares", "facts", "pair", "names", "name", "share", "at", "fact", "kind"]) FD sc_SurveyD_initD (fun cdv A outer s H E hr => by
    refine pds_cons ?_ ?_
    refine pds_if ?_ ?_ pds_nil
    refine PDW.pt ?_
    refine pdw_or ?_ ?_
    refine pdt_not ?_
    refine pdt_val ?_
    refine pd_fun (ft_is_list_1 T) (hr.mono (by decide)) ?_
    refine pda_c ?_ pda_nil
    exact (pd_var 1)
    refine pdw_or1 ?_
    refine pdt_cmp (od_eq hr.units) ?_ pd_int
    refine pd_bc oc_len T.b_len (by decide +kernel) ?_
    refine pda_c ?_ pda_nil
    exact (pd_var 1)
    exact (pds_one pds_stuck)
    refine pds_cons ?_ ?_
    refine pds_if ?_ ?_ pds_nil
    refine pdt_not ?_
    refine pdt_val ?_
    refine pd_bc (oc_all (by rfl)) T.b_all (by decide +kernel) ?_
    refine pda_c ?_ pda_nil
    refine pd_lc ?_ sc_SurveyD_initD.nd (blkOk_by (own := [("pair", 3)]) (by rfl)) (fun _ _ _ _ _ => (pdg_name 3 sc_SurveyD_initD.nd)) ?_ ?_ (by rfl)
    refine pdi_list ?_
    exact (pd_var 1)
    intro _ _ _ _ _
    exact (pdts_nil)
    intro _ _ _ _ _
    refine pd_and ?_ ?_
    refine pd_isi ?_ (ClsV.ty _) (pd_bltn (v := .ty "tuple") (u := .type "tuple") T.b_tuple (by decide +kernel) rfl) T.ans_tuple T.b_isinstance
    exact (pd_var 3)
    refine pd_one ?_
    refine pd_cmp (od_eq hr.units) ?_ pd_int
    refine pd_bc oc_len T.b_len (by decide +kernel) ?_
    refine pda_c ?_ pda_nil
    exact (pd_var 3)
    exact (pds_one pds_stuck)
    refine pds_cons ?_ ?_
    refine pds_set (i := 4) ?_ sc_SurveyD_initD.nd
    refine pd_lc ?_ sc_SurveyD_initD.nd (blkOk_by (own := [("name", 5), ("share", 6)]) (by rfl)) (fun _ _ _ _ _ => (pdg_tup (n := 2) (by rfl) (pdgs_cons (pdg_name 5 sc_SurveyD_initD.nd) (pdgs_cons (pdg_name 6 sc_SurveyD_initD.nd) pdgs_nil)))) ?_ ?_ (by rfl)
    refine pdi_list ?_
    exact (pd_var 1)
    intro _ _ _ _ _
    exact (pdts_nil)
    intro _ _ _ _ _
    exact (pd_var 5)
    refine pds_cons ?_ ?_
    refine pds_for ?_ (pdg_name 5 sc_SurveyD_initD.nd) ?_ (by rfl) (passes_of rfl)
    refine pdi_list ?_
    exact (pd_var 4)
    refine pds_one ?_
    refine pds_if ?_ ?_ pds_nil
    refine pdt_not ?_
    refine pdt_val ?_
    refine pd_fun (ft_is_name_1 T) (hr.mono (by decide)) ?_
    refine pda_c ?_ pda_nil
    exact (pd_var 5)
    exact (pds_one pds_stuck)
    refine pds_cons ?_ ?_
    refine pds_for ?_ (pdg_tup (n := 2) (by rfl) (pdgs_cons (pdg_name 5 sc_SurveyD_initD.nd) (pdgs_cons (pdg_name 6 sc_SurveyD_initD.nd) pdgs_nil))) ?_ (by rfl) (passes_of rfl)
    refine pdi_list ?_
    exact (pd_var 1)
    refine pds_one ?_
    refine pds_expr ?_
    refine pd_fun (ft_need_share_1 T) (hr.mono (by decide)) ?_
    refine pda_c ?_ pda_nil
    exact (pd_var 6)
    refine pds_cons ?_ ?_
    refine pds_if ?_ ?_ pds_nil
    refine pdt_cmp od_gt ?_ (let ⟨t, h⟩ := T.g_MOST_LIGHTS; pd_glob (RepA.int _) h ⟨t, rfl⟩)
    refine pd_bc oc_len T.b_len (by decide +kernel) ?_
    refine pda_c ?_ pda_nil
    exact (pd_var 4)
    exact (pds_one pds_stuck)
    refine pds_cons ?_ ?_
    refine pds_for ?_ (pdg_tup (n := 2) (by rfl) (pdgs_cons (pdg_name 7 sc_SurveyD_initD.nd) (pdgs_cons (pdg_name 5 sc_SurveyD_initD.nd) pdgs_nil))) ?_ (by rfl) (passes_of rfl)
    refine pdi_enum T.b_enumerate ?_
    refine pda_c ?_ pda_nil
    exact (pd_var 4)
    refine pds_one ?_
    refine pds_if ?_ ?_ pds_nil
    refine pdt_cmp od_in ?_ ?_ (by rfl)
    exact (pd_var 5)
    refine pd_sl ?_ pdo_none ?_
    exact (pd_var 4)
    refine pdo_some ?_
    exact (pd_var 7)
    exact (pds_one pds_stuck)
    refine pds_cons ?_ ?_
    refine pds_if ?_ ?_ pds_nil
    refine pdt_not ?_
    refine pdt_val ?_
    refine pd_fun (ft_is_list_1 T) (hr.mono (by decide)) ?_
    refine pda_c ?_ pda_nil
    exact (pd_var 2)
    exact (pds_one pds_stuck)
    refine pds_cons ?_ ?_
    refine pds_for ?_ (pdg_tup (n := 2) (by rfl) (pdgs_cons (pdg_name 7 sc_SurveyD_initD.nd) (pdgs_cons (pdg_name 8 sc_SurveyD_initD.nd) pdgs_nil))) ?_ (by rfl) (passes_of rfl)
    refine pdi_enum T.b_enumerate ?_
    refine pda_c ?_ pda_nil
    exact (pd_var 2)
    refine pds_one ?_
    refine pds_if ?_ ?_ pds_nil
    refine pdt_not ?_
    refine pdt_val ?_
    refine pd_fun (ft_is_fact_2 T) (hr.mono (by decide)) ?_
    refine pda_c ?_ ?_
    exact (pd_var 8)
    refine pda_c ?_ pda_nil
    exact (pd_var 4)
    exact (pds_one pds_stuck)
    refine pds_cons ?_ ?_
    refine pds_putF ?_ ?_ (by intro C hC; simp only [List.mem_cons, List.not_mem_nil, or_false] at hC; subst hC; exact ⟨T.cl_Survey, T.fl_Survey_own_shares.no⟩)
    refine pd_bt oc_tuple T.b_tuple (by decide +kernel) ?_
    refine pda_c ?_ pda_nil
    exact (pd_var 1)
    exact (pd_var 0)
    refine pds_cons ?_ ?_
    refine pds_putF ?_ ?_ (by intro C hC; simp only [List.mem_cons, List.not_mem_nil, or_false] at hC; subst hC; exact ⟨T.cl_Survey, T.fl_Survey_own_facts.no⟩)
    refine pd_bt oc_list T.b_list (by decide +kernel) ?_
    refine pda_c ?_ pda_nil
    exact (pd_var 2)
    exact (pd_var 0)
    refine pds_one ?_
    refine pds_putF ?_ ?_ (by intro C hC; simp only [List.mem_cons, List.not_mem_nil, or_false] at hC; subst hC; exact ⟨T.cl_Survey, T.fl_Survey_tables.no⟩)
    refine pd_dcE rfl rfl ?_ sc_SurveyD_initD.nd (blkOk_by (own := [("kind", 9)]) (by rfl)) (fun _ _ _ _ _ => (pdg_name 9 sc_SurveyD_initD.nd)) ?_ ?_ ?_ (by rfl)
    exact (pdi_tup (let ⟨a, h, t⟩ := T.g_KINDS; pd_glob (RepA.strs (zs := ["out", "back"]) t) h rfl))
    intro _ _ _ _ _
    exact (pdts_nil)
    intro _ _ _ _ _ _
    exact (pd_var 9)
    intro _ _ _ _ _ _
    refine pd_fun (ft_closed_bounds_3 T) (hr.mono (by decide)) ?_
    refine pda_c ?_ ?_
    exact (pd_var 9)
    refine pda_c ?_ ?_
    exact (pd_var 2)
    refine pda_c ?_ pda_nil
    exact (pd_var 4)
    exact (pd_var 0))
theorem kt_Survey_2 (T : Txt K mg c) : KT P w K mg base 8 "Survey" c.cSurvey (padF 3 [] (F_SurveyD_initD c)) := by
  obtain ⟨f, fd, h0, hf, FD⟩ := T.me_SurveyD_initD
  exact ⟨T.gc_Survey, f, fd, _, _, _, ⟨T.mk_Survey.1, h0, hf, T.mk_Survey.2⟩, ok_SurveyD_initD T FD, (bd_of (FD.binds1 3 1 (by simp) rfl (fun _ _ _ _ _ _ _ us its l1 l2 => match us, its, l1, l2 with | [_, _, _], [_], _, _ => ⟨_, rfl, rfl⟩)) (fun _ _ => .nil)), rfl⟩
theorem ok_w_fact (T : Txt K mg c) {f : Addr} {fd : FuncData} (FD : FunD K "_law_fact" "_law_fact" (defArgs s_w_fact) (defBody s_w_fact) (defScope s_w_fact) [] [] f fd) : FnD P w K mg base 5 f fd ["_law_fact_here", "_law_parts"] (F_w_fact c) := fnD_of (N := ["_law_fact_here", "_law_parts", "_law_kind", "_law_held", "_law_low", "_law_high", "_law_bounds", "_law_bound"]) FD sc_w_fact (fun cdv A outer s H E hr => by
    refine pds_cons ?_ ?_
    refine pds_asg ?_ (pdg_tup (n := 4) (by rfl) (pdgs_cons (pdg_name 2 sc_w_fact.nd) (pdgs_cons (pdg_name 3 sc_w_fact.nd) (pdgs_cons (pdg_name 4 sc_w_fact.nd) (pdgs_cons (pdg_name 5 sc_w_fact.nd) pdgs_nil)))))
    exact (pd_var 0)
    refine pds_cons ?_ ?_
    refine pds_set (i := 6) ?_ sc_w_fact.nd
    refine pd_bt oc_tuple T.b_tuple (by decide +kernel) ?_
    refine pda_c ?_ pda_nil
    refine pd_lc ?_ sc_w_fact.nd (blkOk_by (own := [("_law_bound", 7)]) (by rfl)) (fun _ _ _ _ _ => (pdg_name 7 sc_w_fact.nd)) ?_ ?_ (by rfl)
    refine pdi_list ?_
    refine pd_lst ?_
    refine pda_c ?_ ?_
    exact (pd_var 4)
    refine pda_c ?_ pda_nil
    exact (pd_var 5)
    intro _ _ _ _ _
    exact (pdts_nil)
    intro _ _ _ _ _
    refine pd_if ?_ pd_non ?_
    refine pdt_cmp od_isN ?_ pd_non
    exact (pd_var 7)
    refine pd_make (k := 3) (kt_Ratio_2 T) (hr.mono (by decide)) ?_
    refine pda_c ?_ ?_
    exact (pd_var 7)
    refine pda_c ?_ pda_nil
    exact (pd_var 1)
    refine pds_one ?_
    refine pds_ret ?_
    refine pd_op od_catT ?_ ?_
    refine pd_op od_catT ?_ ?_
    refine pd_tup ?_
    refine pda_c ?_ pda_nil
    exact (pd_var 2)
    exact (pd_var 3)
    exact (pd_var 6))
theorem ft_w_fact_2 (T : Txt K mg c) : FT P w K mg base 5 "_law_fact" (padF 2 [] (F_w_fact c)) := by
  obtain ⟨f, fd, hm, FD⟩ := T.fn_w_fact
  exact ⟨f, fd, _, _, _, hm, FD.kp, ok_w_fact T FD, (Bd.nil (FD.bindsN (fun _ _ _ _ _ _ us hl => match us, hl with | [_, _], _ => rfl))), rfl⟩
theorem ok_w_survey (T : Txt K mg c) {f : Addr} {fd : FuncData} (FD : FunD K "_law_survey" "_law_survey" (defArgs s_w_survey) (defBody s_w_survey) (defScope s_w_survey) [] [] f fd) : FnD P w K mg base 10 f fd ["_law_rows", "_law_facts_here", "_law_parts"] (F_w_survey c) := fnD_of (N := ["_law_rows", "_law_facts_here", "_law_parts", "_law_name", "_law_share", "_law_fact_here"]) FD sc_w_survey (fun cdv A outer s H E hr => by
    refine pds_one ?_
    refine pds_ret ?_
    refine pd_make (k := 8) (kt_Survey_2 T) (hr.mono (by decide)) ?_
    refine pda_c ?_ ?_
    refine pd_lc ?_ sc_w_survey.nd (blkOk_by (own := [("_law_name", 3), ("_law_share", 4)]) (by rfl)) (fun _ _ _ _ _ => (pdg_tup (n := 2) (by rfl) (pdgs_cons (pdg_name 3 sc_w_survey.nd) (pdgs_cons (pdg_name 4 sc_w_survey.nd) pdgs_nil)))) ?_ ?_ (by rfl)
    refine pdi_list ?_
    exact (pd_var 0)
    intro _ _ _ _ _
    exact (pdts_nil)
    intro _ _ _ _ _
    refine pd_tup ?_
    refine pda_c ?_ ?_
    exact (pd_var 3)
    refine pda_c ?_ pda_nil
    refine pd_make (k := 3) (kt_Ratio_2 T) (hr.mono (by decide)) ?_
    refine pda_c ?_ ?_
    exact (pd_var 4)
    refine pda_c ?_ pda_nil
    exact (pd_var 2)
    refine pda_c ?_ pda_nil
    refine pd_lcS ?_ sc_w_survey.nd (blkOk_by (own := [("_law_fact_here", 5)]) (by rfl)) (fun _ _ _ _ _ => (pdg_name 5 sc_w_survey.nd)) ?_ ?_ (fin_F _) (by rfl)
    exact (pd_var 1)
    intro _ _ _ _ _
    exact (pdts_nil)
    intro _ _ _ _ _
    refine pd_fun (ft_w_fact_2 T) (hr.mono (by decide)) ?_
    refine pda_c ?_ ?_
    exact (pd_var 5)
    refine pda_c ?_ pda_nil
    exact (pd_var 2))
theorem ft_w_survey_3 (T : Txt K mg c) : FT P w K mg base 10 "_law_survey" (padF 3 [] (F_w_survey c)) := by
  obtain ⟨f, fd, hm, FD⟩ := T.fn_w_survey
  exact ⟨f, fd, _, _, _, hm, FD.kp, ok_w_survey T FD, (Bd.nil (FD.bindsN (fun _ _ _ _ _ _ us hl => match us, hl with | [_, _, _], _ => rfl))), rfl⟩
theorem ok_RatioD_subD (T : Txt K mg c) {f : Addr} {fd : FuncData} (FD : FunD K "__sub__" "Ratio.__sub__" (defArgs s_RatioD_subD) (defBody s_RatioD_subD) (defScope s_RatioD_subD) [] [] f fd) : FnD P w K mg base 5 f fd ["self", "other"] (F_RatioD_subD c) := fnD_of (N := ["self", "other"]) FD sc_RatioD_subD (fun cdv A outer s H E hr => by
    refine pds_one ?_
    refine pds_ret ?_
    refine pd_make (k := 3) (kt_Ratio_2 T) (hr.mono (by decide)) ?_
    refine pda_c ?_ ?_
    refine pd_op od_sub ?_ ?_
    refine pd_op od_mul ?_ ?_
    refine pd_fld ?_ (by intro r hr; simp only [List.mem_cons, List.not_mem_nil, or_false] at hr; subst hr; exact T.fl_Ratio_own_top)
    exact (pd_var 0)
    refine pd_prop (k := 1) ?_ (by intro r hr; simp only [List.mem_cons, List.not_mem_nil, or_false] at hr; subst hr; exact (po_Ratio_Ratio_bottom T (by decide))) (hr.mono (by decide))
    exact (pd_var 1)
    refine pd_op od_mul ?_ ?_
    refine pd_prop (k := 1) ?_ (by intro r hr; simp only [List.mem_cons, List.not_mem_nil, or_false] at hr; subst hr; exact (po_Ratio_Ratio_top T (by decide))) (hr.mono (by decide))
    exact (pd_var 1)
    refine pd_fld ?_ (by intro r hr; simp only [List.mem_cons, List.not_mem_nil, or_false] at hr; subst hr; exact T.fl_Ratio_own_bottom)
    exact (pd_var 0)
    refine pda_c ?_ pda_nil
    refine pd_op od_mul ?_ ?_
    refine pd_fld ?_ (by intro r hr; simp only [List.mem_cons, List.not_mem_nil, or_false] at hr; subst hr; exact T.fl_Ratio_own_bottom)
    exact (pd_var 0)
    refine pd_prop (k := 1) ?_ (by intro r hr; simp only [List.mem_cons, List.not_mem_nil, or_false] at hr; subst hr; exact (po_Ratio_Ratio_bottom T (by decide))) (hr.mono (by decide))
    exact (pd_var 1))
theorem mt_Ratio_RatioD_subD_2 (T : Txt K mg c) : MT P w K mg base 5 "__sub__" c.cRatio (padF 2 [] (F_RatioD_subD c)) := by
  obtain ⟨f, fd, h0, hf, FD⟩ := T.me_RatioD_subD
  exact ⟨f, fd, _, _, _, h0, hf, FD.kp, ok_RatioD_subD T FD, (Bd.nil (FD.bindsN (fun _ _ _ _ _ _ us hl => match us, hl with | [_, _], _ => rfl))), rfl⟩
theorem mo_Ratio_RatioD_subD_2 (T : Txt K mg c) {k : Nat} (hk : 5 ≤ k) : MethOk P w K mg base k "__sub__" c.kRatio (padF 2 [] (F_RatioD_subD c)) := ⟨T.cl_Ratio, (mt_Ratio_RatioD_subD_2 T).mono hk, (show ("__sub__" : Str) ∉ nsRatio from by decide +kernel)⟩
theorem ok_w_is_fit (T : Txt K mg c) {f : Addr} {fd : FuncData} (FD : FunD K "_law_is_fit" "_law_is_fit" (defArgs s_w_is_fit) (defBody s_w_is_fit) (defScope s_w_is_fit) [] [] f fd) : FnD P w K mg base 6 f fd ["_law_names_here", "_law_facts_here", "_law_times_z"] (F_w_is_fit c) := fnD_of (N := ["_law_names_here", "_law_facts_here", "_law_times_z", "_law_kind", "_law_held", "_law_low", "_law_high", "_law_some", "_law_name", "_law_time", "_law_pair"]) FD sc_w_is_fit (fun cdv A outer s H E hr => by
    refine pds_cons ?_ ?_
    refine pds_forS ?_ (pdg_tup (n := 4) (by rfl) (pdgs_cons (pdg_name 3 sc_w_is_fit.nd) (pdgs_cons (pdg_name 4 sc_w_is_fit.nd) (pdgs_cons (pdg_name 5 sc_w_is_fit.nd) (pdgs_cons (pdg_name 6 sc_w_is_fit.nd) pdgs_nil))))) ?_ (by rfl) (passes_of rfl)
    exact (pd_var 1)
    refine pds_cons ?_ ?_
    refine pds_setLc (i := 7) ?_ sc_w_is_fit.nd (blkOk_by (own := [("_law_name", 8)]) (by rfl)) (fun _ _ _ _ _ => (pdg_name 8 sc_w_is_fit.nd)) ?_ ?_ (by rfl) (sw_true rfl rfl rfl (by decide +kernel))
    refine pdi_tup ?_
    exact (pd_var 4)
    intro _ _ _ _ _
    exact (pdts_nil)
    intro _ _ _ _ _
    refine pd_ix ?_ ?_
    refine pd_ix ?_ ?_
    exact (pd_var 2)
    refine pd_index ?_ ?_
    exact (pd_var 0)
    refine pda_c ?_ pda_nil
    exact (pd_var 8)
    refine pd_bt oc_int T.b_int (by decide +kernel) ?_
    refine pda_c ?_ pda_nil
    refine pd_cmp (od_eq hr.units) ?_ pd_str
    exact (pd_var 3)
    refine pds_cons ?_ ?_
    refine pds_set (i := 9) ?_ sc_w_is_fit.nd
    refine pd_op (od_or od_sub (od_own (mt_Ratio_RatioD_subD_2 T) T.sf_Ratio (hr.mono (by decide)))) ?_ ?_
    refine pd_ix ?_ ?_
    exact (pd_var 7)
    refine pd_op od_sub ?_ pd_int
    refine pd_bc oc_len T.b_len (by decide +kernel) ?_
    refine pda_c ?_ pda_nil
    exact (pd_var 7)
    refine pd_if ?_ ?_ pd_int
    refine pdt_cmp (od_eq hr.units) ?_ pd_int
    refine pd_bc oc_len T.b_len (by decide +kernel) ?_
    refine pda_c ?_ pda_nil
    exact (pd_var 7)
    refine pd_ix ?_ pd_int
    exact (pd_var 7)
    refine pds_one ?_
    refine pds_if ?_ ?_ pds_nil
    refine PDW.pt ?_
    refine pdw_or ?_ ?_
    refine PDW.pt ?_
    refine pdw_and ?_ ?_
    refine pdt_cmp od_notN ?_ pd_non
    exact (pd_var 5)
    refine pdw_and1 ?_
    refine pdt_cmp od_lt ?_ ?_
    exact (pd_var 9)
    exact (pd_var 5)
    refine pdw_or1 ?_
    refine PDW.pt ?_
    refine pdw_and ?_ ?_
    refine pdt_cmp od_notN ?_ pd_non
    exact (pd_var 6)
    refine pdw_and1 ?_
    refine pdt_cmp od_gt ?_ ?_
    exact (pd_var 9)
    exact (pd_var 6)
    refine pds_one ?_
    exact (pds_ret pd_bl)
    refine pds_one ?_
    refine pds_ret ?_
    refine pd_bc (oc_all (by rfl)) T.b_all (by decide +kernel) ?_
    refine pda_c ?_ pda_nil
    refine pd_lc ?_ sc_w_is_fit.nd (blkOk_by (own := [("_law_pair", 10)]) (by rfl)) (fun _ _ _ _ _ => (pdg_name 10 sc_w_is_fit.nd)) ?_ ?_ (by rfl)
    refine pdi_list ?_
    exact (pd_var 2)
    intro _ _ _ _ _
    exact (pdts_nil)
    intro _ _ _ _ _
    refine pd_and ?_ ?_
    refine pd_cmp od_ge ?_ pd_int
    refine pd_ix ?_ pd_int
    exact (pd_var 10)
    refine pd_one ?_
    refine pd_cmp od_ge ?_ pd_int
    refine pd_ix ?_ pd_int
    exact (pd_var 10))
theorem ft_w_is_fit_3 (T : Txt K mg c) : FT P w K mg base 6 "_law_is_fit" (padF 3 [] (F_w_is_fit c)) := by
  obtain ⟨f, fd, hm, FD⟩ := T.fn_w_is_fit
  exact ⟨f, fd, _, _, _, hm, FD.kp, ok_w_is_fit T FD, (Bd.nil (FD.bindsN (fun _ _ _ _ _ _ us hl => match us, hl with | [_, _, _], _ => rfl))), rfl⟩
theorem ok_Survey_names (T : Txt K mg c) {f : Addr} {fd : FuncData} (FD : FunD K "names" "Survey.names" (defArgs s_Survey_names) (defBody s_Survey_names) (defScope s_Survey_names) [] [] f fd) : FnD P w K mg base 1 f fd ["self"] (F_Survey_names c) := fnD_of (N := ["self", "name", "share"]) FD sc_Survey_names (fun cdv A outer s H E hr => by
    refine pds_one ?_
    refine pds_ret ?_
    refine pd_lc ?_ sc_Survey_names.nd (blkOk_by (own := [("name", 1), ("share", 2)]) (by rfl)) (fun _ _ _ _ _ => (pdg_tup (n := 2) (by rfl) (pdgs_cons (pdg_name 1 sc_Survey_names.nd) (pdgs_cons (pdg_name 2 sc_Survey_names.nd) pdgs_nil)))) ?_ ?_ (by rfl)
    refine pdi_tup ?_
    refine pd_fld ?_ (by intro r hr; simp only [List.mem_cons, List.not_mem_nil, or_false] at hr; subst hr; exact T.fl_Survey_own_shares)
    exact (pd_var 0)
    intro _ _ _ _ _
    exact (pdts_nil)
    intro _ _ _ _ _
    exact (pd_var 1))
theorem mt_Survey_Survey_names_1 (T : Txt K mg c) : MT P w K mg base 1 "names" c.cSurvey (padF 1 [] (F_Survey_names c)) := by
  obtain ⟨f, fd, h0, hf, FD⟩ := T.me_Survey_names
  exact ⟨f, fd, _, _, _, h0, hf, FD.kp, ok_Survey_names T FD, (Bd.nil (FD.bindsN (fun _ _ _ _ _ _ us hl => match us, hl with | [_], _ => rfl))), rfl⟩
theorem mo_Survey_Survey_names_1 (T : Txt K mg c) {k : Nat} (hk : 1 ≤ k) : MethOk P w K mg base k "names" c.kSurvey (padF 1 [] (F_Survey_names c)) := ⟨T.cl_Survey, (mt_Survey_Survey_names_1 T).mono hk, (show ("names" : Str) ∉ nsSurvey from by decide +kernel)⟩
theorem ok_has_bounds (T : Txt K mg c) {f : Addr} {fd : FuncData} (FD : FunD K "has_bounds" "has_bounds" (defArgs s_has_bounds) (defBody s_has_bounds) (defScope s_has_bounds) [] [] f fd) : FnD P w K mg base 4 f fd ["value", "low", "high"] (F_has_bounds c) := fnD_of (N := ["value", "low", "high"]) FD sc_has_bounds (fun cdv A outer s H E hr => by
    refine pds_one ?_
    refine pds_ret ?_
    refine pd_and ?_ ?_
    refine pd_or ?_ ?_
    refine pd_cmp od_isN ?_ pd_non
    exact (pd_var 1)
    refine pd_one ?_
    refine pd_notO (k := 0) ?_ (by intro r hr; exact nomatch hr) (hr.mono (by decide))
    refine pd_meth (k := 3) ?_ (by intro r hr; simp only [List.mem_cons, List.not_mem_nil, or_false] at hr; subst hr; exact (mo_Ratio_Ratio_is_below_2 T (by decide))) (hr.mono (by decide)) ?_
    exact (pd_var 0)
    refine pda_c ?_ pda_nil
    exact (pd_var 1)
    refine pd_one ?_
    refine pd_or ?_ ?_
    refine pd_cmp od_isN ?_ pd_non
    exact (pd_var 2)
    refine pd_one ?_
    refine pd_notO (k := 0) ?_ (by intro r hr; exact nomatch hr) (hr.mono (by decide))
    refine pd_meth (k := 3) ?_ (by intro r hr; simp only [List.mem_cons, List.not_mem_nil, or_false] at hr; subst hr; exact (mo_Ratio_Ratio_is_below_2 T (by decide))) (hr.mono (by decide)) ?_
    exact (pd_var 2)
    refine pda_c ?_ pda_nil
    exact (pd_var 0))
theorem ft_has_bounds_3 (T : Txt K mg c) : FT P w K mg base 4 "has_bounds" (padF 3 [] (F_has_bounds c)) := by
  obtain ⟨f, fd, hm, FD⟩ := T.fn_has_bounds
  exact ⟨f, fd, _, _, _, hm, FD.kp, ok_has_bounds T FD, (Bd.nil (FD.bindsN (fun _ _ _ _ _ _ us hl => match us, hl with | [_, _, _], _ => rfl))), rfl⟩
theorem ok_Survey_is_fit (T : Txt K mg c) {f : Addr} {fd : FuncData} (FD : FunD K "is_fit" "Survey.is_fit" (defArgs s_Survey_is_fit) (defBody s_Survey_is_fit) (defScope s_Survey_is_fit) [] [] f fd) : FnD P w K mg base 6 f fd ["self", "times"] (F_Survey_is_fit c) := FnD.zap (fnD_of (N := ["self", "times", "pair", "time", "names", "fact", "held", "name"]) FD sc_Survey_is_fit (fun cdv A outer s H E hr => by
    refine pds_cons ?_ ?_
    refine pds_if ?_ ?_ pds_nil
    refine PDW.pt ?_
    refine pdw_or ?_ ?_
    refine pdt_not ?_
    refine pdt_val ?_
    refine pd_fun (ft_is_list_1 T) (hr.mono (by decide)) ?_
    refine pda_c ?_ pda_nil
    exact (pd_var 1)
    refine pdw_or1 ?_
    refine pdt_cmp (od_ne hr.units) ?_ ?_
    refine pd_bc oc_len T.b_len (by decide +kernel) ?_
    refine pda_c ?_ pda_nil
    exact (pd_var 1)
    refine pd_bc oc_len T.b_len (by decide +kernel) ?_
    refine pda_c ?_ pda_nil
    refine pd_fld ?_ (by intro r hr; simp only [List.mem_cons, List.not_mem_nil, or_false] at hr; subst hr; exact T.fl_Survey_own_shares)
    exact (pd_var 0)
    refine pds_one ?_
    exact (pds_ret pd_bl)
    refine pds_cons ?_ ?_
    refine pds_if ?_ ?_ pds_nil
    refine pdt_not ?_
    refine pdt_val ?_
    refine pd_bc (oc_all (by rfl)) T.b_all (by decide +kernel) ?_
    refine pda_c ?_ pda_nil
    refine pd_lc ?_ sc_Survey_is_fit.nd (blkOk_by (own := [("pair", 2)]) (by rfl)) (fun _ _ _ _ _ => (pdg_name 2 sc_Survey_is_fit.nd)) ?_ ?_ (by rfl)
    refine pdi_orA ?_ ?_
    refine pdi_list ?_
    exact (pd_var 1)
    refine pdi_orA ?_ ?_
    refine pdi_tup ?_
    exact (pd_var 1)
    refine pdi_str ?_
    exact (pd_var 1)
    intro _ _ _ _ _
    exact (pdts_nil)
    intro _ _ _ _ _
    refine pd_and ?_ ?_
    refine pd_isi ?_ (ClsV.ty _) (pd_bltn (v := .ty "tuple") (u := .type "tuple") T.b_tuple (by decide +kernel) rfl) T.ans_tuple__Ratio T.b_isinstance
    exact (pd_var 2)
    refine pd_one ?_
    refine pd_cmp (od_eq hr.units) ?_ pd_int
    refine pd_bc oc_len T.b_len (by decide +kernel) ?_
    refine pda_c ?_ pda_nil
    exact (pd_var 2)
    refine pds_one ?_
    exact (pds_ret pd_bl)
    refine pds_cons ?_ ?_
    refine pds_if ?_ ?_ pds_nil
    refine pdt_not ?_
    refine pdt_val ?_
    refine pd_bc (oc_all (by rfl)) T.b_all (by decide +kernel) ?_
    refine pda_c ?_ pda_nil
    refine pd_lc2 ?_ sc_Survey_is_fit.nd (blkOk_by (own := [("pair", 2), ("time", 3)]) (by rfl)) (fun _ _ _ _ _ => (pdg_name 2 sc_Survey_is_fit.nd)) ?_ ?_ (fun _ _ _ _ _ => (pdg_name 3 sc_Survey_is_fit.nd)) ?_ ?_ (by rfl)
    refine pdi_orA ?_ ?_
    refine pdi_list ?_
    exact (pd_var 1)
    refine pdi_orA ?_ ?_
    refine pdi_tup ?_
    exact (pd_var 1)
    refine pdi_str ?_
    exact (pd_var 1)
    intro _ _ _ _ _
    exact (pdts_nil)
    intro _ _ _ _ _
    refine pdi_orA ?_ ?_
    refine pdi_list ?_
    exact (pd_var 2)
    refine pdi_orA ?_ ?_
    refine pdi_tup ?_
    exact (pd_var 2)
    refine pdi_str ?_
    exact (pd_var 2)
    intro _ _ _ _ _
    exact (pdts_nil)
    intro _ _ _ _ _
    refine pd_fun (ft_is_between_3 T) (hr.mono (by decide)) ?_
    refine pda_c ?_ ?_
    exact (pd_var 3)
    refine pda_int ?_
    exact (pda_non pda_nil)
    refine pds_one ?_
    exact (pds_ret pd_bl)
    refine pds_cons ?_ ?_
    refine pds_set (i := 4) ?_ sc_Survey_is_fit.nd
    refine pd_meth0 (k := 1) ?_ (by intro r hr; simp only [List.mem_cons, List.not_mem_nil, or_false] at hr; subst hr; exact (mo_Survey_Survey_names_1 T (by decide))) (hr.mono (by decide))
    exact (pd_var 0)
    refine pds_cons ?_ ?_
    refine pds_for ?_ (pdg_name 5 sc_Survey_is_fit.nd) ?_ (by rfl) (passes_of rfl)
    refine pdi_list ?_
    refine pd_fld ?_ (by intro r hr; simp only [List.mem_cons, List.not_mem_nil, or_false] at hr; subst hr; exact T.fl_Survey_own_facts)
    exact (pd_var 0)
    refine pds_cons ?_ ?_
    refine pds_setLc (i := 6) ?_ sc_Survey_is_fit.nd (blkOk_by (own := [("name", 7)]) (by rfl)) (fun _ _ _ _ _ => (pdg_name 7 sc_Survey_is_fit.nd)) ?_ ?_ (by rfl) (sw_true rfl rfl rfl (by decide +kernel))
    refine pdi_tup ?_
    refine pd_slT ?_ ?_ ?_
    exact (pd_var 5)
    exact (pdo_some pd_int)
    refine pdo_some ?_
    exact (pd_negI pd_int)
    intro _ _ _ _ _
    exact (pdts_nil)
    intro _ _ _ _ _
    refine pd_ix ?_ (let ⟨a, h, t⟩ := T.g_KINDS; pd_kidx (zs := ["out", "back"]) t h (pd_ix (pd_var 5) pd_int))
    refine pd_ix ?_ ?_
    exact (pd_var 1)
    refine pd_index ?_ ?_
    exact (pd_var 4)
    refine pda_c ?_ pda_nil
    exact (pd_var 7)
    refine pds_cons ?_ ?_
    refine pds_set (i := 3) ?_ sc_Survey_is_fit.nd
    refine pd_if ?_ ?_ ?_
    refine pdt_cmp (od_eq hr.units) ?_ pd_int
    refine pd_bc oc_len T.b_len (by decide +kernel) ?_
    refine pda_c ?_ pda_nil
    exact (pd_var 6)
    refine pd_ix ?_ pd_int
    exact (pd_var 6)
    refine pd_op (od_or od_sub (od_own (mt_Ratio_RatioD_subD_2 T) T.sf_Ratio (hr.mono (by decide)))) ?_ ?_
    refine pd_ix ?_ pd_int
    exact (pd_var 6)
    refine pd_ix ?_ pd_int
    exact (pd_var 6)
    refine pds_one ?_
    refine pds_if ?_ ?_ pds_nil
    refine pdt_not ?_
    refine pdt_val ?_
    refine pd_fun (ft_has_bounds_3 T) (hr.mono (by decide)) ?_
    refine pda_c ?_ ?_
    exact (pd_var 3)
    refine pda_c ?_ ?_
    refine pd_ix ?_ ?_
    exact (pd_var 5)
    exact (pd_negI pd_int)
    refine pda_c ?_ pda_nil
    refine pd_ix ?_ ?_
    exact (pd_var 5)
    exact (pd_negI pd_int)
    refine pds_one ?_
    exact (pds_ret pd_bl)
    refine pds_one ?_
    exact (pds_ret pd_bl)))
theorem mtk_Survey_Survey_is_fit_0_times (T : Txt K mg c) {k : Nat} (hk : 6 ≤ k) : MTK P w K mg base k "is_fit" 0 ["times"] c.kSurvey (GK_Survey_is_fit_0_times c) := by
  obtain ⟨f, fd, h0, hf, FD⟩ := T.me_Survey_is_fit
  have hok := (ok_Survey_is_fit (P := P) (w := w) (base := base) T FD).mono hk
  have hkp := FD.kp
  obtain ⟨oc, od, dV, kV, doc, pm, an, cdv, ct, osl, rfl, lk, hcd, hD, hK⟩ := FD.ex
  obtain rfl := dfl_nil hD
  exact ⟨T.cl_Survey, (show ("is_fit" : Str) ∉ nsSurvey from by decide +kernel), f, _, _, [0, 1], [], _, h0, hf, hkp, hok, ⟨[], [], .nil, fun _ _ => .nil, fun s us ws _ l1 l2 => match us, ws, l1, l2 with | [_], [_], _, _ => ⟨.of_eq rfl, rfl⟩⟩, rfl⟩
theorem mt_Survey_Survey_is_fit_2 (T : Txt K mg c) : MT P w K mg base 6 "is_fit" c.cSurvey (padF 2 [] (F_Survey_is_fit c)) := by
  obtain ⟨f, fd, h0, hf, FD⟩ := T.me_Survey_is_fit
  exact ⟨f, fd, _, _, _, h0, hf, FD.kp, ok_Survey_is_fit T FD, (Bd.nil (FD.bindsN (fun _ _ _ _ _ _ us hl => match us, hl with | [_, _], _ => rfl))), rfl⟩
theorem mo_Survey_Survey_is_fit_2 (T : Txt K mg c) {k : Nat} (hk : 6 ≤ k) : MethOk P w K mg base k "is_fit" c.kSurvey (padF 2 [] (F_Survey_is_fit c)) := ⟨T.cl_Survey, (mt_Survey_Survey_is_fit_2 T).mono hk, (show ("is_fit" : Str) ∉ nsSurvey from by decide +kernel)⟩
theorem ft_w_like_2 (T : Txt K mg c) : ∀ n : Nat, FT P w K mg base (n + 2) "_law_like" (padF 2 [] (F_w_like c n))
  | 0 => by
    obtain ⟨f, fd, hm, FD⟩ := T.fn_w_like
    exact ⟨f, fd, ["_law_found", "_law_due"], [], F_w_like c 0, hm, FD.kp, FnOk.mono (fnD_none FD sc_w_like) (by omega), (Bd.nil (FD.bindsN (fun _ _ _ _ _ _ us hl => match us, hl with | [_, _], _ => rfl))), rfl⟩
  | n + 1 => by
    have ih := ft_w_like_2 T n
    obtain ⟨f, fd, hm, FD⟩ := T.fn_w_like
    exact ⟨f, fd, ["_law_found", "_law_due"], [], F_w_like c (n + 1), hm, FD.kp, fnD_of (k := n + 2) FD sc_w_like (fun cdv A outer s H E hr => by
      refine pds_cons ?_ ?_
      refine pds_if ?_ ?_ pds_nil
      refine PDW.pt ?_
      refine pdw_or ?_ ?_
      refine pdt_cmp od_isN ?_ pd_non
      exact (pd_var 1)
      refine pdw_or1 ?_
      refine pdt_cmp od_isN ?_ pd_non
      exact (pd_var 0)
      refine pds_one ?_
      refine pds_ret ?_
      refine pd_and ?_ ?_
      refine pd_cmp od_isN ?_ pd_non
      exact (pd_var 1)
      refine pd_one ?_
      refine pd_cmp od_isN ?_ pd_non
      exact (pd_var 0)
      refine pds_cons ?_ ?_
      refine pds_if ?_ ?_ pds_nil
      refine pdt_val ?_
      refine pd_isiT ?_ (.cons (ClsV.ty _) (.cons (ClsV.ty _) .nil)) (pda_c (pd_bltn (v := .ty "list") (u := .type "list") T.b_list (by decide +kernel) rfl) (pda_c (pd_bltn (v := .ty "tuple") (u := .type "tuple") T.b_tuple (by decide +kernel) rfl) pda_nil)) (by decide) T.ans_list_tuple T.b_isinstance
      exact (pd_var 1)
      refine pds_cons ?_ ?_
      refine pds_if ?_ ?_ pds_nil
      refine PDW.pt ?_
      refine pdw_or ?_ ?_
      refine pdt_cmp (od_ne hr.units) ?_ ?_
      refine pd_isi ?_ (ClsV.ty _) (pd_bltn (v := .ty "list") (u := .type "list") T.b_list (by decide +kernel) rfl) T.ans_list T.b_isinstance
      exact (pd_var 0)
      refine pd_isi ?_ (ClsV.ty _) (pd_bltn (v := .ty "list") (u := .type "list") T.b_list (by decide +kernel) rfl) T.ans_list T.b_isinstance
      exact (pd_var 1)
      refine pdw_or1 ?_
      refine pdt_cmp (od_ne hr.units) ?_ ?_
      refine pd_isi ?_ (ClsV.ty _) (pd_bltn (v := .ty "tuple") (u := .type "tuple") T.b_tuple (by decide +kernel) rfl) T.ans_tuple T.b_isinstance
      exact (pd_var 0)
      refine pd_isi ?_ (ClsV.ty _) (pd_bltn (v := .ty "tuple") (u := .type "tuple") T.b_tuple (by decide +kernel) rfl) T.ans_tuple T.b_isinstance
      exact (pd_var 1)
      refine pds_one ?_
      exact (pds_ret pd_bl)
      refine pds_one ?_
      refine pds_ret ?_
      refine pd_and ?_ ?_
      refine pd_cmp (od_eq hr.units) ?_ ?_
      refine pd_bc oc_len T.b_len (by decide +kernel) ?_
      refine pda_c ?_ pda_nil
      exact (pd_var 0)
      refine pd_bc oc_len T.b_len (by decide +kernel) ?_
      refine pda_c ?_ pda_nil
      exact (pd_var 1)
      refine pd_one ?_
      refine pd_bc (oc_all (by rfl)) T.b_all (by decide +kernel) ?_
      refine pda_c ?_ pda_nil
      refine pd_lc ?_ sc_w_like.nd (blkOk_by (own := [("_law_one_here", 2), ("_law_two", 3)]) (by rfl)) (fun _ _ _ _ _ => (pdg_tup (n := 2) (by rfl) (pdgs_cons (pdg_name 2 sc_w_like.nd) (pdgs_cons (pdg_name 3 sc_w_like.nd) pdgs_nil)))) ?_ ?_ (by rfl)
      refine pdi_zip T.b_zip ?_
      refine pda_c ?_ ?_
      exact (pd_var 0)
      refine pda_c ?_ pda_nil
      exact (pd_var 1)
      intro _ _ _ _ _
      exact (pdts_nil)
      intro _ _ _ _ _
      refine pd_fun (ih) (hr.mono (by omega)) ?_
      refine pda_c ?_ ?_
      exact (pd_var 2)
      refine pda_c ?_ pda_nil
      exact (pd_var 3)
      refine pds_cons ?_ ?_
      refine pds_if ?_ ?_ pds_nil
      refine PDW.pt ?_
      refine pdw_or ?_ ?_
      refine pdt_cmp (od_ne hr.units) ?_ ?_
      refine pd_isi ?_ (ClsV.ty _) (pd_bltn (v := .ty "bool") (u := .type "bool") T.b_bool (by decide +kernel) rfl) T.ans_bool T.b_isinstance
      exact (pd_var 0)
      refine pd_isi ?_ (ClsV.ty _) (pd_bltn (v := .ty "bool") (u := .type "bool") T.b_bool (by decide +kernel) rfl) T.ans_bool T.b_isinstance
      exact (pd_var 1)
      refine pdw_or1 ?_
      refine pdt_cmp (od_ne hr.units) ?_ ?_
      refine pd_isi ?_ (ClsV.ty _) (pd_bltn (v := .ty "int") (u := .type "int") T.b_int (by decide +kernel) rfl) T.ans_int T.b_isinstance
      exact (pd_var 0)
      refine pd_isi ?_ (ClsV.ty _) (pd_bltn (v := .ty "int") (u := .type "int") T.b_int (by decide +kernel) rfl) T.ans_int T.b_isinstance
      exact (pd_var 1)
      refine pds_one ?_
      exact (pds_ret pd_bl)
      refine pds_one ?_
      refine pds_ret ?_
      refine pd_and ?_ ?_
      refine pd_cmp (od_eq hr.units) ?_ ?_
      refine pd_isi ?_ (ClsV.ty _) (pd_bltn (v := .ty "str") (u := .type "str") T.b_str (by decide +kernel) rfl) T.ans_str T.b_isinstance
      exact (pd_var 0)
      refine pd_isi ?_ (ClsV.ty _) (pd_bltn (v := .ty "str") (u := .type "str") T.b_str (by decide +kernel) rfl) T.ans_str T.b_isinstance
      exact (pd_var 1)
      refine pd_one ?_
      refine pd_cmp (od_eq hr.units) ?_ ?_
      exact (pd_var 0)
      exact (pd_var 1)), (Bd.nil (FD.bindsN (fun _ _ _ _ _ _ us hl => match us, hl with | [_, _], _ => rfl))), rfl⟩
theorem ok_law (T : Txt K mg c) {f : Addr} {fd : FuncData} (FD : FunD K "law" "law" (defArgs s_law) (defBody s_law) (defScope s_law) [] [] f fd) : FnD P w K mg base 11 f fd ["_law_script"] (F_law c) := fnD_of (N := ["_law_script", "_law_bag", "_law_turn", "_law_parts", "_law_names_here", "_law_facts_here", "_law_times_z", "_law_made", "_law_look", "_law_at", "_law_by", "_law_pair", "_law_some", "_law_handed", "_law_out", "_law_back", "_law_due", "_law_kept", "_law_good", "_law_odd"]) FD sc_law (fun cdv A outer s H E hr => by
    refine pds_cons ?_ ?_
    refine pds_set (i := 1) ?_ sc_law.nd
    refine pd_fun (ft_w_begin_1 T) (hr.mono (by decide)) ?_
    refine pda_c ?_ pda_nil
    exact (pd_var 0)
    refine pds_cons ?_ ?_
    refine pds_for ?_ (pdg_name 2 sc_law.nd) ?_ (by rfl) (passes_of rfl)
    refine pdi_range1 T.b_range ?_
    exact (pda_int pda_nil)
    refine pds_cons ?_ ?_
    refine pds_set (i := 3) ?_ sc_law.nd
    refine pd_fun (ft_w_steps_1 T) (hr.mono (by decide)) ?_
    refine pda_c ?_ pda_nil
    exact (pd_var 1)
    refine pds_cons ?_ ?_
    refine pds_set (i := 4) ?_ sc_law.nd
    refine pd_fun (ft_w_names_2 T) (hr.mono (by decide)) ?_
    refine pda_c ?_ ?_
    exact (pd_var 1)
    refine pda_c ?_ pda_nil
    refine pd_op od_add pd_int ?_
    refine pd_fun (ft_w_take_2 T) (hr.mono (by decide)) ?_
    refine pda_c ?_ ?_
    exact (pd_var 1)
    exact (pda_int pda_nil)
    refine pds_cons ?_ ?_
    refine pds_asg ?_ (pdg_tup (n := 2) (by rfl) (pdgs_cons (pdg_name 5 sc_law.nd) (pdgs_cons (pdg_name 6 sc_law.nd) pdgs_nil)))
    refine pd_fun (ft_w_facts_3 T) (hr.mono (by decide)) ?_
    refine pda_c ?_ ?_
    exact (pd_var 1)
    refine pda_c ?_ ?_
    exact (pd_var 4)
    refine pda_c ?_ pda_nil
    exact (pd_var 3)
    refine pds_cons ?_ ?_
    refine pds_set (i := 7) ?_ sc_law.nd
    refine pd_fun (ft_w_survey_3 T) (hr.mono (by decide)) ?_
    refine pda_c ?_ ?_
    refine pd_fun (ft_w_shares_3 T) (hr.mono (by decide)) ?_
    refine pda_c ?_ ?_
    exact (pd_var 1)
    refine pda_c ?_ ?_
    exact (pd_var 4)
    refine pda_c ?_ pda_nil
    exact (pd_var 3)
    refine pda_c ?_ ?_
    exact (pd_var 5)
    refine pda_c ?_ pda_nil
    exact (pd_var 3)
    refine pds_cons ?_ ?_
    refine pds_for ?_ (pdg_name 8 sc_law.nd) ?_ (by rfl) (passes_of rfl)
    refine pdi_range1 T.b_range ?_
    exact (pda_int pda_nil)
    refine pds_cons ?_ ?_
    refine pds_par (i := 9) (j := 10) ?_ (by rfl) sc_law.nd
    refine pda_c ?_ ?_
    refine pd_fun (ft_w_take_2 T) (hr.mono (by decide)) ?_
    refine pda_c ?_ ?_
    exact (pd_var 1)
    refine pda_c ?_ pda_nil
    refine pd_bc oc_len T.b_len (by decide +kernel) ?_
    refine pda_c ?_ pda_nil
    exact (pd_var 6)
    refine pda_c ?_ pda_nil
    refine pd_fun (ft_w_one_2 T) (hr.mono (by decide)) ?_
    refine pda_c ?_ ?_
    exact (pd_var 1)
    refine pda_c ?_ pda_nil
    refine pd_lst ?_
    refine pda_int ?_
    refine pda_int ?_
    refine pda_c ?_ ?_
    exact (pd_negI pd_int)
    refine pda_int ?_
    refine pda_c ?_ ?_
    exact (pd_negI pd_int)
    exact (pda_int pda_nil)
    refine pds_cons ?_ ?_
    refine pds_set (i := 11) ?_ sc_law.nd
    refine pd_if ?_ ?_ ?_
    refine pdt_cmp (od_eq hr.units) ?_ pd_int
    refine pd_fun (ft_w_take_2 T) (hr.mono (by decide)) ?_
    refine pda_c ?_ ?_
    exact (pd_var 1)
    exact (pda_int pda_nil)
    refine pd_tup ?_
    refine pda_c ?_ ?_
    refine pd_op od_add ?_ ?_
    refine pd_ix ?_ pd_int
    refine pd_ix ?_ ?_
    exact (pd_var 6)
    exact (pd_var 9)
    exact (pd_var 10)
    refine pda_c ?_ pda_nil
    refine pd_ix ?_ pd_int
    refine pd_ix ?_ ?_
    exact (pd_var 6)
    exact (pd_var 9)
    refine pd_tup ?_
    refine pda_c ?_ ?_
    refine pd_ix ?_ pd_int
    refine pd_ix ?_ ?_
    exact (pd_var 6)
    exact (pd_var 9)
    refine pda_c ?_ pda_nil
    refine pd_op od_add ?_ ?_
    refine pd_ix ?_ pd_int
    refine pd_ix ?_ ?_
    exact (pd_var 6)
    exact (pd_var 9)
    exact (pd_var 10)
    refine pds_cons ?_ ?_
    refine pds_set (i := 12) ?_ sc_law.nd
    refine pd_op od_cat ?_ ?_
    refine pd_op od_cat ?_ ?_
    refine pd_sl ?_ pdo_none ?_
    exact (pd_var 6)
    refine pdo_some ?_
    exact (pd_var 9)
    refine pd_lst ?_
    refine pda_c ?_ pda_nil
    exact (pd_var 11)
    refine pd_sl ?_ ?_ pdo_none
    exact (pd_var 6)
    refine pdo_some ?_
    refine pd_op od_add ?_ pd_int
    exact (pd_var 9)
    refine pds_cons ?_ ?_
    refine pds_setLc (i := 13) ?_ sc_law.nd (blkOk_by (own := [("_law_out", 14), ("_law_back", 15)]) (by rfl)) (fun _ _ _ _ _ => (pdg_tup (n := 2) (by rfl) (pdgs_cons (pdg_name 14 sc_law.nd) (pdgs_cons (pdg_name 15 sc_law.nd) pdgs_nil)))) ?_ ?_ (by rfl) (sw_true rfl rfl rfl (by decide +kernel))
    refine pdi_list ?_
    exact (pd_var 12)
    intro _ _ _ _ _
    exact (pdts_nil)
    intro _ _ _ _ _
    refine pd_tup ?_
    refine pda_c ?_ ?_
    refine pd_make (k := 3) (kt_Ratio_2 T) (hr.mono (by decide)) ?_
    refine pda_c ?_ ?_
    exact (pd_var 14)
    refine pda_c ?_ pda_nil
    exact (pd_var 3)
    refine pda_c ?_ pda_nil
    refine pd_make (k := 3) (kt_Ratio_2 T) (hr.mono (by decide)) ?_
    refine pda_c ?_ ?_
    exact (pd_var 15)
    refine pda_c ?_ pda_nil
    exact (pd_var 3)
    refine pds_cons ?_ ?_
    refine pds_set (i := 16) ?_ sc_law.nd
    refine pd_fun (ft_w_is_fit_3 T) (hr.mono (by decide)) ?_
    refine pda_c ?_ ?_
    exact (pd_var 4)
    refine pda_c ?_ ?_
    exact (pd_var 5)
    refine pda_c ?_ pda_nil
    exact (pd_var 12)
    refine pds_cons ?_ ?_
    refine pds_set (i := 17) ?_ sc_law.nd
    refine pd_bt oc_list T.b_list (by decide +kernel) ?_
    refine pda_c ?_ pda_nil
    exact (pd_var 13)
    refine pds_one ?_
    refine pds_if ?_ ?_ pds_nil
    refine PDW.pt ?_
    refine pdw_or ?_ ?_
    refine pdt_not ?_
    refine pdt_val ?_
    refine pd_fun (ft_w_like_2 T 8) (hr.mono (by decide)) ?_
    refine pda_c ?_ ?_
    refine pd_lst ?_
    refine pda_c ?_ ?_
    refine pd_meth (k := 6) ?_ (by intro r hr; simp only [List.mem_cons, List.not_mem_nil, or_false] at hr; subst hr; exact (mo_Survey_Survey_is_fit_2 T (by decide))) (hr.mono (by decide)) ?_
    exact (pd_var 7)
    refine pda_c ?_ pda_nil
    exact (pd_var 13)
    refine pda_c ?_ ?_
    refine pd_methK0 (k := 6) (ks := ["times"]) ?_ (by intro r hr; simp only [List.mem_cons, List.not_mem_nil, or_false] at hr; subst hr; exact (mtk_Survey_Survey_is_fit_0_times T (by decide))) (hr.mono (by decide)) ?_
    exact (pd_var 7)
    refine pdk_cons ?_ pdk_nil
    refine pd_bt oc_tuple T.b_tuple (by decide +kernel) ?_
    refine pda_c ?_ pda_nil
    exact (pd_var 13)
    refine pda_c ?_ pda_nil
    refine pd_meth (k := 6) ?_ (by intro r hr; simp only [List.mem_cons, List.not_mem_nil, or_false] at hr; subst hr; exact (mo_Survey_Survey_is_fit_2 T (by decide))) (hr.mono (by decide)) ?_
    exact (pd_var 7)
    refine pda_c ?_ pda_nil
    refine pd_op od_cat ?_ ?_
    exact (pd_var 13)
    refine pd_sl ?_ pdo_none ?_
    exact (pd_var 13)
    exact (pdo_some pd_int)
    refine pda_c ?_ pda_nil
    refine pd_lst ?_
    refine pda_c ?_ ?_
    exact (pd_var 16)
    refine pda_c ?_ ?_
    exact (pd_var 16)
    exact (pda_bl pda_nil)
    refine pdw_or1 ?_
    refine pdt_cmp (od_neX (k := 3) (by intro r hr; simp only [List.mem_cons, List.not_mem_nil, or_false] at hr; subst hr; exact (eqo_3 T (by decide))) 5 (hr.mono (by decide))) ?_ ?_
    exact (pd_var 13)
    exact (pd_var 17)
    refine pds_one ?_
    exact (pds_ret pd_bl)
    refine pds_cons ?_ ?_
    refine pds_setLc (i := 18) ?_ sc_law.nd (blkOk_by (own := [("_law_out", 14), ("_law_back", 15)]) (by rfl)) (fun _ _ _ _ _ => (pdg_tup (n := 2) (by rfl) (pdgs_cons (pdg_name 14 sc_law.nd) (pdgs_cons (pdg_name 15 sc_law.nd) pdgs_nil)))) ?_ ?_ (by rfl) (sw_true rfl rfl rfl (by decide +kernel))
    refine pdi_list ?_
    exact (pd_var 6)
    intro _ _ _ _ _
    exact (pdts_nil)
    intro _ _ _ _ _
    refine pd_tup ?_
    refine pda_c ?_ ?_
    refine pd_make (k := 3) (kt_Ratio_2 T) (hr.mono (by decide)) ?_
    refine pda_c ?_ ?_
    exact (pd_var 14)
    refine pda_c ?_ pda_nil
    exact (pd_var 3)
    refine pda_c ?_ pda_nil
    refine pd_make (k := 3) (kt_Ratio_2 T) (hr.mono (by decide)) ?_
    refine pda_c ?_ ?_
    exact (pd_var 15)
    refine pda_c ?_ pda_nil
    exact (pd_var 3)
    refine pds_cons ?_ ?_
    refine pds_set (i := 19) ?_ sc_law.nd
    refine pd_fun (ft_w_one_2 T) (hr.mono (by decide)) ?_
    refine pda_c ?_ ?_
    exact (pd_var 1)
    refine pda_c ?_ pda_nil
    refine pd_lst ?_
    refine pda_non ?_
    refine pda_int ?_
    refine pda_str ?_
    refine pda_c ?_ ?_
    refine pd_sl ?_ ?_ pdo_none
    exact (pd_var 18)
    exact (pdo_some pd_int)
    refine pda_c ?_ ?_
    refine pd_lc ?_ sc_law.nd (blkOk_by (own := [("_law_pair", 11)]) (by rfl)) (fun _ _ _ _ _ => (pdg_name 11 sc_law.nd)) ?_ ?_ (by rfl)
    refine pdi_list ?_
    exact (pd_var 18)
    intro _ _ _ _ _
    exact (pdts_nil)
    intro _ _ _ _ _
    refine pd_bt oc_list T.b_list (by decide +kernel) ?_
    refine pda_c ?_ pda_nil
    exact (pd_var 11)
    refine pda_c ?_ ?_
    refine pd_lc ?_ sc_law.nd (blkOk_by (own := [("_law_pair", 11)]) (by rfl)) (fun _ _ _ _ _ => (pdg_name 11 sc_law.nd)) ?_ ?_ (by rfl)
    refine pdi_list ?_
    exact (pd_var 18)
    intro _ _ _ _ _
    exact (pdts_nil)
    intro _ _ _ _ _
    refine pd_tup ?_
    refine pda_c ?_ ?_
    refine pd_ix ?_ pd_int
    exact (pd_var 11)
    exact (pda_non pda_nil)
    refine pda_c ?_ ?_
    exact (pd_var 6)
    refine pda_c ?_ ?_
    refine pd_lc ?_ sc_law.nd (blkOk_by (own := [("_law_pair", 11)]) (by rfl)) (fun _ _ _ _ _ => (pdg_name 11 sc_law.nd)) ?_ ?_ (by rfl)
    refine pdi_list ?_
    exact (pd_var 18)
    intro _ _ _ _ _
    exact (pdts_nil)
    intro _ _ _ _ _
    refine pd_tup ?_
    refine pda_c ?_ ?_
    refine pd_ix ?_ pd_int
    exact (pd_var 11)
    refine pda_c ?_ ?_
    refine pd_ix ?_ pd_int
    exact (pd_var 11)
    refine pda_c ?_ pda_nil
    refine pd_ix ?_ pd_int
    exact (pd_var 11)
    refine pda_c ?_ pda_nil
    refine pd_lc ?_ sc_law.nd (blkOk_by (own := [("_law_pair", 11)]) (by rfl)) (fun _ _ _ _ _ => (pdg_name 11 sc_law.nd)) ?_ ?_ (by rfl)
    refine pdi_list ?_
    exact (pd_var 18)
    intro _ _ _ _ _
    exact (pdts_nil)
    intro _ _ _ _ _
    refine pd_ix ?_ pd_int
    exact (pd_var 11)
    refine pds_one ?_
    refine pds_if ?_ ?_ pds_nil
    refine pdt_not ?_
    refine pdt_val ?_
    refine pd_fun (ft_w_like_2 T 8) (hr.mono (by decide)) ?_
    refine pda_c ?_ ?_
    refine pd_lst ?_
    refine pda_c ?_ ?_
    refine pd_meth (k := 6) ?_ (by intro r hr; simp only [List.mem_cons, List.not_mem_nil, or_false] at hr; subst hr; exact (mo_Survey_Survey_is_fit_2 T (by decide))) (hr.mono (by decide)) ?_
    exact (pd_var 7)
    refine pda_c ?_ pda_nil
    exact (pd_var 18)
    refine pda_c ?_ pda_nil
    refine pd_meth (k := 6) ?_ (by intro r hr; simp only [List.mem_cons, List.not_mem_nil, or_false] at hr; subst hr; exact (mo_Survey_Survey_is_fit_2 T (by decide))) (hr.mono (by decide)) ?_
    exact (pd_var 7)
    refine pda_c ?_ pda_nil
    exact (pd_var 19)
    refine pda_c ?_ pda_nil
    refine pd_lst ?_
    refine pda_bl ?_
    exact (pda_bl pda_nil)
    refine pds_one ?_
    exact (pds_ret pd_bl)
    refine pds_one ?_
    exact (pds_ret pd_bl))
end
end W

set_option maxHeartbeats 1000000
namespace W
open PySem PySem.Spec L2 DL
@[simp] theorem orF_ap (f g : DFn) (ds : List D) (m : Mu) : orF f g ds m = match f ds m with
  | .stuck => g ds m
  | r => r := rfl
@[simp] theorem tru_bl (m : Mu) (b : Bool) : dTru m (.bl b) = some b := rfl
@[simp ↓] theorem dTrO_ap (rows : List (Kl × DFn)) (t : DE) (e : En) (m : Mu) : dTrO rows t e m = (t e m).bind fun d m => match dTru m d with
  | some b => .ok b m
  | none => match insOf m d with
    | some (C, ns, _) => match methAt rows C ns with
      | some G => (G [d] m).bind fun r m => match r with
        | .bl b => .ok b m
        | _ => .stuck
      | none => .stuck
    | none => .stuck := rfl
@[simp ↓] theorem dNotO_ap (rows : List (Kl × DFn)) (t : DE) (e : En) (m : Mu) : dNotO rows t e m = (dTrO rows t e m).bind fun b m => .ok (.bl !b) m := rfl
theorem log_lt {n k : Nat} (h : n < 2 ^ k) (hk : 0 < k) : n.log2 < k := by
  by_cases h0 : n = 0
  · subst h0; simpa using hk
  · exact (Nat.log2_lt h0).mpr h
theorem log_le {n : Nat} {k : Nat} (h : n ≤ 2 ^ k) : n.log2 ≤ k := by
  by_cases h0 : n = 0
  · subst h0; simp
  · have := (Nat.log2_lt h0 (k := k + 1)).mpr (by rw [Nat.pow_succ]; omega)
    omega
theorem mulOk_of {i j : Int} (h : i.natAbs.log2 + j.natAbs.log2 < 1000000) : mulOk i j = true := by
  unfold mulOk; simpa using h
theorem divOk_of {i j : Int} (h0 : j ≠ 0) (h : j.natAbs.log2 < 9000) : divOk i j = true := by
  unfold divOk; simp [h0, h]
theorem int_log {i : Int} {k : Nat} (h1 : -(2 ^ k : Nat) < i) (h2 : i < (2 ^ k : Nat)) (hk : 0 < k) : i.natAbs.log2 < k := log_lt (by omega) hk
theorem mulOk_lt {i j : Int} (h1 : -(2 ^ 100 : Nat) < i) (h2 : i < (2 ^ 100 : Nat)) (h3 : -(2 ^ 100 : Nat) < j) (h4 : j < (2 ^ 100 : Nat)) : mulOk i j = true :=
  mulOk_of (by have := int_log h1 h2 (by decide); have := int_log h3 h4 (by decide); omega)
def bagO (cells : List Int) (i r x : Int) : Mo := .lst [.lst (cells.map .int), .int i, .int r, .int x]
structure BagO (o : Mo) : Prop where
  ex : ∃ (cells : List Int) (i r x : Int), o = bagO cells i r x ∧ 0 ≤ i ∧ 0 ≤ r ∧ 0 ≤ x ∧ x < 2 ^ 31
structure BagOk (m : Mu) : Prop where
  ex : ∃ o, m[0]? = some o ∧ BagO o
theorem belows_ints (n : Nat) : ∀ xs : List Int, belows n (xs.map .int) = true
  | [] => rfl
  | x :: xs => by simp [belows, below, belows_ints n xs]
theorem BagO.below {o : Mo} (h : BagO o) (n : Nat) : o.below n = true := by
  obtain ⟨cells, i, r, x, rfl, _⟩ := h.ex
  simp [bagO, Mo.below, belows, DL.below, belows_ints]
structure Bgs (m m' : Mu) : Prop where
  ex : ∃ o, m' = m.set 0 o ∧ BagO o
theorem Bgs.len {m m' : Mu} (h : Bgs m m') : m'.length = m.length := by obtain ⟨o, rfl, _⟩ := h.ex; simp
theorem Bgs.trans {m m' m'' : Mu} (h : Bgs m m') (k : Bgs m' m'') : Bgs m m'' := by
  obtain ⟨o, rfl, _⟩ := h.ex
  obtain ⟨o', rfl, hb⟩ := k.ex
  exact ⟨o', by simp, hb⟩
theorem BagOk.set {m : Mu} (h : BagOk m) {o : Mo} (b : BagO o) : BagOk (m.set 0 o) := by
  obtain ⟨o', h1, _⟩ := h.ex
  refine ⟨o, ?_, b⟩
  cases m with
  | nil => simp at h1
  | cons a t => rfl
theorem Bgs.bag {m m' : Mu} (h : Bgs m m') (b : BagOk m) : BagOk m' := by
  obtain ⟨o, rfl, hb⟩ := h.ex
  exact b.set hb
theorem BagOk.rfl' {m : Mu} (b : BagOk m) : Bgs m m := by
  obtain ⟨o, h1, hb⟩ := b.ex
  refine ⟨o, ?_, hb⟩
  cases m with
  | nil => simp at h1
  | cons a t => simp at h1; subst h1; rfl
theorem Bgs.cl {m m' : Mu} (h : Bgs m m') (k : Cl m) : Cl m' := by
  obtain ⟨o, rfl, hb⟩ := h.ex
  intro q hq
  rw [List.length_set]
  rcases List.mem_or_eq_of_mem_set hq with z | z
  · exact k q z
  · subst z; exact hb.below _
theorem Bgs.get {m m' : Mu} (h : Bgs m m') (k : Nat) : m'[k + 1]? = m[k + 1]? := by
  obtain ⟨o, rfl, _⟩ := h.ex
  simp
theorem bagO_mk {cells : List Int} {i r x : Int} (h1 : 0 ≤ i) (h2 : 0 ≤ r) (h3 : 0 ≤ x) (h4 : x < 2 ^ 31) : BagO (bagO cells i r x) := ⟨cells, i, r, x, rfl, h1, h2, h3, h4⟩
theorem mod_b {a n : Int} (h : 0 < n) : 0 ≤ a % n ∧ a % n < n := ⟨Int.emod_nonneg _ (by omega), Int.emod_lt_of_pos _ h⟩
theorem mulOk_m {a n k : Int} (h : 0 < n) (h2 : n < 2 ^ 100) (h3 : 0 ≤ k) (h4 : k < 2 ^ 100) : mulOk (a % n) k = true := by
  have := mod_b (a := a) h
  exact mulOk_lt (by omega) (by omega) (by omega) (by omega)
theorem fdiv_nn {a n : Int} (h : 0 ≤ a) (hn : 0 < n) : 0 ≤ a.fdiv n := by
  rw [Int.fdiv_eq_ediv_of_nonneg _ (by omega)]
  exact Int.ediv_nonneg h (by omega)
theorem take_ex (c : Cs) {m : Mu} (hb : BagOk m) {n : Int} (hn : 0 < n) (hl : n < 2 ^ 200) :
    ∃ v o, F_w_take c [.loc 0, .int n] m = .ok (.int v) (m.set 0 o) ∧ 0 ≤ v ∧ v < n ∧ BagO o := by
  obtain ⟨o, h1, hb⟩ := hb.ex
  obtain ⟨cells, i, r, x, rfl, hi, hr, hx, hx2⟩ := hb.ex
  cases m with
  | nil => simp at h1
  | cons a t =>
  simp at h1
  subst h1
  have hd : ∀ r, divOk r n = true := fun r => divOk_of (by omega) (by have := int_log (i := n) (k := 200) (by omega) (by omega) (by decide); omega)
  have hd53 : ∀ r, divOk r 53 = true := fun r => divOk_of (by omega) (by decide)
  have hm7 : ∀ z : Int, mulOk (z % 7907) 179 = true := fun z => mulOk_m (by omega) (by omega) (by omega) (by omega)
  have hm1 : ∀ x : Int, 0 ≤ x → x < 2 ^ 31 → mulOk x 36919 = true := fun x h h2 => mulOk_lt (by omega) (by omega) (by omega) (by omega)
  have hm2 : ∀ x : Int, 0 ≤ x → x < 2 ^ 31 → mulOk x x = true := fun x h h2 => mulOk_lt (by omega) (by omega) (by omega) (by omega)
  have hm3 : ∀ x : Int, 0 ≤ x → x < 2 ^ 31 → mulOk x 29423 = true := fun x h h2 => mulOk_lt (by omega) (by omega) (by omega) (by omega)
  have hm4 : ∀ z : Int, mulOk (z % 2147483563) 7919 = true := fun z => mulOk_m (by omega) (by omega) (by omega) (by omega)
  have m7 : ∀ z : Int, 0 ≤ z % 2147483647 ∧ z % 2147483647 < 2 ^ 31 := fun z => by have := mod_b (a := z) (n := 2147483647) (by decide); omega
  have m8 : ∀ z : Int, 0 ≤ z % 2147483629 ∧ z % 2147483629 < 2 ^ 31 := fun z => by have := mod_b (a := z) (n := 2147483629) (by decide); omega
  have mn : ∀ z : Int, 0 ≤ z % n ∧ z % n < n := fun z => mod_b hn
  by_cases hc : r = 0 ∧ i < cells.length
  · obtain ⟨rfl, hi2⟩ := hc
    obtain ⟨j, rfl⟩ := Int.eq_ofNat_of_zero_le hi
    have hj : j < cells.length := by omega
    generalize hw : (if cells[j] < 0 then -cells[j] else cells[j]) = w
    have hw0 : 0 ≤ w := by subst hw; split <;> omega
    by_cases h18 : 1000000000000000000 ≤ w
    · have hp : 0 < w := by omega
      refine ⟨w % n, bagO cells (↑j + 1) (w.fdiv n) x, ?_, (mn w).1, (mn w).2, bagO_mk (by omega) (fdiv_nn hw0 hn) hx hx2⟩
      simp [F_w_take, env0, bagO, hj, hw, h18, hp, hd, hn]
    · generalize hR : F_w_take c _ _ = R
      simp [F_w_take, env0, bagO, hj, hw, h18, hm1 x hx hx2, hm4, hm2 _ (m8 _).1 (m8 _).2, hm3 _ (m8 _).1 (m8 _).2, hd53, hm7, hn] at hR
      subst hR
      exact ⟨_, bagO cells (↑j + 1) 0 _, rfl, (mn _).1, (mn _).2, bagO_mk (by omega) (by omega) (m7 _).1 (m7 _).2⟩
  · by_cases hr0 : 0 < r
    · refine ⟨r % n, bagO cells i (r.fdiv n) x, ?_, (mn _).1, (mn _).2, bagO_mk hi (fdiv_nn hr hn) hx hx2⟩
      have : ¬ r = 0 := by omega
      simp [F_w_take, env0, bagO, hr0, hd, hn, this]
    · have : r = 0 := by omega
      subst this
      have hi2 : ¬ i < cells.length := fun h => hc ⟨rfl, h⟩
      generalize hR : F_w_take c _ _ = R
      simp [F_w_take, env0, bagO, hi2, hm2 x hx hx2, hm3 x hx hx2, hd53, hm7, hn] at hR
      subst hR
      exact ⟨_, bagO cells i 0 _, rfl, (mn _).1, (mn _).2, bagO_mk hi (by omega) (m7 _).1 (m7 _).2⟩
theorem take_ok (c : Cs) {m : Mu} (hb : BagOk m) {n : Int} (hn : 0 < n) (hl : n < 2 ^ 200) :
    ∃ v m', F_w_take c [.loc 0, .int n] m = .ok (.int v) m' ∧ 0 ≤ v ∧ v < n ∧ Bgs m m' := by
  obtain ⟨v, o, h1, h2, h3, h4⟩ := take_ex c hb hn hl
  exact ⟨v, _, h1, h2, h3, ⟨o, rfl, h4⟩⟩
theorem one_ok (c : Cs) {m : Mu} (hb : BagOk m) {ds : List D} (h0 : ds ≠ []) (hl : ds.length < 1000000) :
    ∃ d m', F_w_one c [.loc 0, .lst ds] m = .ok d m' ∧ d ∈ ds ∧ Bgs m m' := by
  have hp : 0 < ds.length := List.length_pos_iff.mpr h0
  obtain ⟨v, m', e, h1, h2, h3⟩ := take_ok c hb (n := ds.length) (by omega) (by omega)
  obtain ⟨j, rfl⟩ := Int.eq_ofNat_of_zero_le h1
  have hj : j < ds.length := by omega
  refine ⟨ds[j], m', ?_, List.getElem_mem hj, h3⟩
  simp [F_w_one, env0, e, hj]
theorem gcd_step (a b : Nat) : Nat.gcd b (a % b) = Nat.gcd a b := by rw [Nat.gcd_comm b, ← Nat.gcd_rec, Nat.gcd_comm]
theorem common_while (c : Cs) (m : Mu) : ∀ (k a b : Nat), b < k → whileF (T_common_divisor_1 c) (B_common_divisor_1 c) k [some (.int a), some (.int b)] m = .nx [some (.int (Nat.gcd a b)), some (.int 0)] m
  | 0, a, b, h => by omega
  | k + 1, a, b, h => by
    unfold whileF
    by_cases hb : b = 0
    · subst hb; simp [T_common_divisor_1_ap]
    · have hb' : 0 < b := by omega
      have hm := Nat.mod_lt a hb'
      have ih := common_while c m k b (a % b) (by omega)
      rw [Int.natCast_emod, gcd_step] at ih
      simp [T_common_divisor_1_ap, B_common_divisor_1_ap, hb', ih, hb]
theorem common_ok (c : Cs) (a b : Int) (ha : 0 ≤ a) (hb : 0 ≤ b) (m : Mu) : F_common_divisor c [.int a, .int b] m = .ok (.int (Int.gcd a b)) m := by
  obtain ⟨j, rfl⟩ := Int.eq_ofNat_of_zero_le ha
  obtain ⟨k, rfl⟩ := Int.eq_ofNat_of_zero_le hb
  have h := dWhile_eq (common_while c m (k + 1) j k (by omega)) (by simp)
  simp [F_common_divisor, env0, h, Int.gcd]
theorem abs_gcd (a b : Int) : Int.gcd (if a < 0 then -a else a) (if b < 0 then -b else b) = Int.gcd a b := by
  unfold Int.gcd
  congr 1 <;> split <;> omega
theorem abs_nn (a : Int) : 0 ≤ (if a < 0 then -a else a) := by split <;> omega
def sg (a b : Int) : Int := if 0 < b then (Int.gcd a b : Int) else -(Int.gcd a b : Int)
theorem sg_ne (a : Int) {b : Int} (hb : b ≠ 0) : sg a b ≠ 0 := by
  unfold sg
  have : Int.gcd a b ≠ 0 := by rw [Ne, Int.gcd_eq_zero_iff]; omega
  split <;> omega
theorem sg_num (a : Int) {b : Int} (hb : b ≠ 0) : a.fdiv (sg a b) = (Rat.divInt a b).num := by
  rw [Rat.num_divInt, Int.gcd_comm b a]
  unfold sg
  have hg : (Int.gcd a b : Int) ∣ a := Int.gcd_dvd_left ..
  obtain ⟨k, hk⟩ := hg
  have h0 : (Int.gcd a b : Int) ≠ 0 := by have : Int.gcd a b ≠ 0 := by rw [Ne, Int.gcd_eq_zero_iff]; omega
                                          omega
  generalize (Int.gcd a b : Int) = g at *
  subst hk
  by_cases h : 0 < b
  · rw [if_pos h, Int.sign_eq_one_of_pos h, Int.one_mul, Int.mul_fdiv_cancel_left _ h0, Int.mul_ediv_cancel_left _ h0]
  · rw [if_neg h, Int.sign_eq_neg_one_of_neg (by omega), Int.neg_one_mul, ← Int.mul_neg, Int.mul_ediv_cancel_left _ h0, ← Int.neg_mul_neg, Int.mul_fdiv_cancel_left _ (by omega)]
theorem sg_den (a : Int) {b : Int} (hb : b ≠ 0) : b.fdiv (sg a b) = (Rat.divInt a b).den := by
  rw [Rat.den_divInt, if_neg hb, Int.gcd_comm b a]
  unfold sg
  have hg : (Int.gcd a b : Int) ∣ b := Int.gcd_dvd_right ..
  have h0 : Int.gcd a b ≠ 0 := by rw [Ne, Int.gcd_eq_zero_iff]; omega
  generalize Int.gcd a b = g at *
  have h0' : (g : Int) ≠ 0 := by omega
  obtain ⟨k, hk⟩ := hg
  subst hk
  have e : ((g : Int) * k).natAbs = g * k.natAbs := by rw [Int.natAbs_mul]; simp
  rw [e, Nat.mul_div_cancel_left _ (by omega)]
  by_cases h : 0 < (g : Int) * k
  · rw [if_pos h, Int.mul_fdiv_cancel_left _ h0']
    have : 0 < k := Int.pos_of_mul_pos_right h (by omega)
    omega
  · rw [if_neg h, ← Int.neg_mul_neg, Int.mul_fdiv_cancel_left _ (by omega)]
    have : ¬ 0 < k := fun z => h (Int.mul_pos (by omega) z)
    omega
theorem gcd_log (a : Int) {b : Int} (hb : b ≠ 0) : (Int.gcd a b).log2 ≤ b.natAbs.log2 := by
  have h : Int.gcd a b ≤ b.natAbs := Nat.le_of_dvd (by omega) (Int.gcd_dvd_natAbs_right a b)
  have h0 : Int.gcd a b ≠ 0 := by rw [Ne, Int.gcd_eq_zero_iff]; omega
  exact (Nat.le_log2 (by omega)).mpr (Nat.le_trans (Nat.log2_self_le h0) h)
theorem sg_log (a : Int) {b : Int} (hb : b ≠ 0) : (sg a b).natAbs.log2 ≤ b.natAbs.log2 := by
  have := gcd_log a hb
  unfold sg; split <;> simpa using this
@[simp ↓] theorem dMake_ap (C : Addr) (G : DFn) (t : DA) (e : En) (m : Mu) : dMake C G t e m = match t e m with
  | .stuck => .stuck
  | .ok ds m1 => mkObj C m1 (G (.loc m1.length :: ds) (m1 ++ [.ins C []]))
  | .exc C fs m1 => .exc C fs m1 := by
  unfold dMake
  cases t e m <;> rfl
@[simp] theorem set_last {α : Type} (m : List α) (x y : α) : (m ++ [x]).set m.length y = m ++ [y] := by
  rw [List.set_append_right _ _ (Nat.le_refl _), Nat.sub_self]; rfl
@[simp] theorem get_last {α : Type} (m : List α) (x : α) : (m ++ [x])[m.length]? = some x := by simp
def rat (c : Cs) (q : Rat) : D := .obj c.kRatio [.int q.num, .int q.den]
theorem whole_int (c : Cs) (a : Int) (m : Mu) : F_is_whole c [.int a] m = .ok (.bl true) m := by
  simp [F_is_whole, env0, ans_bool, ans_bool__Ratio, ans_int, ans_int__Ratio, tagOf, Ans.get, primNames]
theorem init_ok (c : Cs) (a : Int) {b : Int} (hb : b ≠ 0) (hl : b.natAbs.log2 < 9000) (m : Mu) :
    F_RatioD_initD c [.loc m.length, .int a, .int b] (m ++ [.ins c.cRatio []]) = .ok .non (m ++ [.ins c.cRatio [("own_top", .int (Rat.divInt a b).num), ("own_bottom", .int (Rat.divInt a b).den)]]) := by
  have h := common_ok c _ _ (abs_nn a) (abs_nn b) (m ++ [.ins c.cRatio []])
  rw [abs_gcd] at h
  have hd : ∀ z, divOk z (sg a b) = true := fun z => divOk_of (sg_ne a hb) (by have := sg_log a hb; omega)
  have hk : (("own_top" : Str) = "own_bottom") = False := by simp; decide +kernel
  by_cases h0 : b < 0
  · have e : ((Int.gcd a b : Nat) : Int) = - sg a b := by unfold sg; rw [if_neg (by omega)]; omega
    rw [e] at h
    simp only [h0, if_true, if_false] at h
    simp [F_RatioD_initD, env0, h, h0, hd, sg_num a hb, sg_den a hb, whole_int, hb, putD, hk]
  · have e : ((Int.gcd a b : Nat) : Int) = sg a b := by unfold sg; rw [if_pos (by omega)]
    rw [e] at h
    simp only [h0, if_true, if_false] at h
    simp [F_RatioD_initD, env0, h, h0, hd, sg_num a hb, sg_den a hb, whole_int, hb, putD, hk]
theorem mk_ratio (c : Cs) (a : Int) {b : Int} (hb : b ≠ 0) (hl : b.natAbs.log2 < 9000) {m : Mu} (hm : Cl m) :
    mkObj c.cRatio m (F_RatioD_initD c [.loc m.length, .int a, .int b] (m ++ [.ins c.cRatio []])) = .ok (rat c (Rat.divInt a b)) m := by
  rw [init_ok c a hb hl]
  simp [mkObj, hm, belows, below, rat, nsRatio]
theorem like_zip (c : Cs) (n : Nat) (e : En) (m : Mu) (he : e.length = 4) (ds : List D) (hl : ds.length ≤ sizeLine) (h : ∀ d ∈ ds, F_w_like c n [d, d] m = .ok (.bl true) m) :
    dCompL (dTupG 2 (dGcons (dName 2) (dGcons (dName 3) dGnil))) dYes (dFun (padF 2 [] (F_w_like c n)) (dCons (dVar 2) (dCons (dVar 3) dNil))) e (ds.map fun a => .tup [a, a]) m [] = .ok (List.replicate ds.length (.bl true)) m := by
  match e, he with
  | [a, b, x, y], _ =>
  rw [dCompL_map (fun _ => .bl true)]
  · rw [List.map_map, show [] ++ List.map ((fun x => D.bl true) ∘ fun a => D.tup [a, a]) ds = List.replicate ds.length (D.bl true) from List.eq_replicate_iff.mpr ⟨by simp, by simp⟩]
  · intro d hd
    obtain ⟨z, hz, rfl⟩ := List.mem_map.mp hd
    refine ⟨[a, b, some z, some z], by simp, by simp, by simp [h z hz]⟩
  · simpa using hl
theorem like_refl (c : Cs) (m : Mu) : ∀ (n : Nat) (d : D), plainD n d → F_w_like c n [d, d] m = .ok (.bl true) m
  | 0, _, h => h.elim
  | n + 1, .non, _ => by simp [F_w_like, env0, gIsN]
  | n + 1, .bl _, _ => by simp [F_w_like, env0, gIsN, ans_bool, ans_int, ans_list, ans_list_tuple, ans_str, ans_tuple, tagOf, Ans.get, primNames]
  | n + 1, .int _, _ => by simp [F_w_like, env0, gIsN, ans_bool, ans_int, ans_list, ans_list_tuple, ans_str, ans_tuple, tagOf, Ans.get, primNames]
  | n + 1, .str _, _ => by simp [F_w_like, env0, gIsN, ans_bool, ans_int, ans_list, ans_list_tuple, ans_str, ans_tuple, tagOf, Ans.get, primNames]
  | n + 1, .tup ds, h => by
    have z := like_zip c n [some (.tup ds), some (.tup ds), none, none] m rfl ds h.1 fun d hd => like_refl c m n d (h.2 d hd)
    simp [F_w_like, env0, gIsN, ans_bool, ans_int, ans_list, ans_list_tuple, ans_str, ans_tuple, tagOf, Ans.get, primNames, z, toBs_trues]
  | n + 1, .lst ds, h => by
    have z := like_zip c n [some (.lst ds), some (.lst ds), none, none] m rfl ds h.1 fun d hd => like_refl c m n d (h.2 d hd)
    simp [F_w_like, env0, gIsN, ans_bool, ans_int, ans_list, ans_list_tuple, ans_str, ans_tuple, tagOf, Ans.get, primNames, z, toBs_trues]
theorem dpos (q : Rat) : (0 : Int) < q.den := by have := q.den_pos; omega
theorem dne (q : Rat) : (q.den : Int) ≠ 0 := by have := dpos q; omega
theorem add_di (q r : Rat) : Rat.divInt (q.num * r.den + r.num * q.den) (q.den * r.den) = q + r := by
  rw [← Rat.divInt_add_divInt _ _ (dne q) (dne r), Rat.num_divInt_den, Rat.num_divInt_den]
theorem sub_di (q r : Rat) : Rat.divInt (q.num * r.den - r.num * q.den) (q.den * r.den) = q - r := by
  rw [← Rat.divInt_sub_divInt _ _ (dne q) (dne r), Rat.num_divInt_den, Rat.num_divInt_den]
theorem mul_di (q r : Rat) : Rat.divInt (q.num * r.num) (q.den * r.den) = q * r := by
  rw [← Rat.divInt_mul_divInt, Rat.num_divInt_den, Rat.num_divInt_den]
theorem neg_di (q : Rat) : Rat.divInt (-q.num) q.den = -q := by
  rw [← Rat.neg_divInt, Rat.num_divInt_den]
def mom (q : Rat) : Rat := q - (q.floor : Rat)
theorem mom_di (q : Rat) : Rat.divInt (q.num % q.den) q.den = mom q := by
  unfold mom
  have h : q.num % (q.den : Int) = q.num - q.den * q.floor := by rw [Rat.floor_def, Int.emod_def]
  rw [h]
  have e := sub_di q (q.floor : Rat)
  simp only [Rat.den_intCast, Rat.num_intCast] at e
  rw [← e]
  congr 1
  · rw [Int.mul_comm (q.den : Int)]; simp
  · simp
def aw (q : Rat) : Rat := if 1 - mom q < mom q then 1 - mom q else mom q
def Bi (k : Nat) (a : Int) : Prop := a.natAbs < 2 ^ k
structure Sz (k : Nat) (q : Rat) : Prop where
  n : Bi k q.num
  d : q.den < 2 ^ k
theorem Bi.mono {j k : Nat} {a : Int} (h : Bi j a) (hk : j ≤ k) : Bi k a := Nat.lt_of_lt_of_le h (Nat.pow_le_pow_right (by decide) hk)
theorem Sz.mono {j k : Nat} {a : Rat} (h : Sz j a) (hk : j ≤ k) : Sz k a := ⟨h.n.mono hk, Nat.lt_of_lt_of_le h.d (Nat.pow_le_pow_right (by decide) hk)⟩
theorem Bi.mul {j k : Nat} {a b : Int} (h : Bi j a) (h' : Bi k b) : Bi (j + k) (a * b) := by
  unfold Bi at *
  rw [Int.natAbs_mul, Nat.pow_add]
  by_cases hb : a.natAbs = 0
  · rw [hb, Nat.zero_mul]; exact Nat.mul_pos (Nat.two_pow_pos _) (Nat.two_pow_pos _)
  · exact Nat.lt_of_lt_of_le ((Nat.mul_lt_mul_left (by omega)).mpr h') (Nat.mul_le_mul_right _ (Nat.le_of_lt h))
theorem Bi.add {k : Nat} {a b : Int} (h : Bi k a) (h' : Bi k b) : Bi (k + 1) (a + b) := by
  unfold Bi at *; rw [Nat.pow_succ]; omega
theorem Bi.sub {k : Nat} {a b : Int} (h : Bi k a) (h' : Bi k b) : Bi (k + 1) (a - b) := by
  unfold Bi at *; rw [Nat.pow_succ]; omega
theorem Bi.neg {k : Nat} {a : Int} (h : Bi k a) : Bi k (-a) := by unfold Bi at *; omega
theorem Bi.emod {k : Nat} {b : Int} (a : Int) (h : Bi k b) (h0 : b ≠ 0) : Bi k (a % b) := by
  unfold Bi at *
  have h1 := Int.emod_nonneg a h0
  have h2 := Int.emod_lt a h0
  omega
theorem Bi.log {k : Nat} {a : Int} (h : Bi k a) : a.natAbs.log2 ≤ k := log_le (Nat.le_of_lt h)
theorem Bi.lit {k : Nat} {a : Int} (h : decide (a.natAbs < 2 ^ k) = true) : Bi k a := by unfold Bi; exact of_decide_eq_true h
theorem Bi.lt {k : Nat} {a : Int} (h1 : -(2 ^ k : Nat) < a) (h2 : a < (2 ^ k : Nat)) : Bi k a := by unfold Bi; omega
theorem Sz.bd {k : Nat} {q : Rat} (h : Sz k q) : Bi k q.den := by have := h.d; unfold Bi; simpa using this
theorem mul_Bi {j k : Nat} {a b : Int} (h : Bi j a) (h' : Bi k b) (hk : j + k < 1000000) : mulOk a b = true := mulOk_of (by have := h.log; have := h'.log; omega)
theorem nd {j k : Nat} {q r : Rat} (h : Sz j q) (h' : Sz k r) (hk : j + k < 1000000 := by decide) : mulOk q.num r.den = true := mul_Bi h.n h'.bd hk
theorem dn {j k : Nat} {q r : Rat} (h : Sz j q) (h' : Sz k r) (hk : j + k < 1000000 := by decide) : mulOk q.den r.num = true := mul_Bi h.bd h'.n hk
theorem dd {j k : Nat} {q r : Rat} (h : Sz j q) (h' : Sz k r) (hk : j + k < 1000000 := by decide) : mulOk q.den r.den = true := mul_Bi h.bd h'.bd hk
theorem Sz.di {k : Nat} {a b : Int} (h : Bi k a) (h' : Bi k b) (hb : b ≠ 0) : Sz k (Rat.divInt a b) := by
  constructor
  · unfold Bi
    rw [Rat.num_divInt]
    have : (b.sign * a / (b.gcd a : Int)).natAbs ≤ a.natAbs := by
      have h1 : (b.sign * a).natAbs = a.natAbs := by rw [Int.natAbs_mul, Int.natAbs_sign_of_ne_zero hb, Nat.one_mul]
      rw [← h1]
      exact Int.natAbs_ediv_le_natAbs _ _
    exact Nat.lt_of_le_of_lt this h
  · rw [Rat.den_divInt, if_neg hb]
    exact Nat.lt_of_le_of_lt (Nat.div_le_self _ _) h'
theorem mul_ne {a b : Int} (h : a ≠ 0) (h' : b ≠ 0) : a * b ≠ 0 := Int.mul_ne_zero h h'
theorem Sz.add {j k : Nat} {q r : Rat} (h : Sz j q) (h' : Sz k r) : Sz (j + k + 1) (q + r) := by
  rw [← add_di]
  refine Sz.di ?_ ((h.bd.mul h'.bd).mono (by omega)) (mul_ne (dne q) (dne r))
  exact (h.n.mul h'.bd).add ((h'.n.mul h.bd).mono (by omega))
theorem Sz.sub {j k : Nat} {q r : Rat} (h : Sz j q) (h' : Sz k r) : Sz (j + k + 1) (q - r) := by
  rw [← sub_di]
  refine Sz.di ?_ ((h.bd.mul h'.bd).mono (by omega)) (mul_ne (dne q) (dne r))
  exact (h.n.mul h'.bd).sub ((h'.n.mul h.bd).mono (by omega))
theorem Sz.mul {j k : Nat} {q r : Rat} (h : Sz j q) (h' : Sz k r) : Sz (j + k) (q * r) := by
  rw [← mul_di]
  exact Sz.di (h.n.mul h'.n) (h.bd.mul h'.bd) (mul_ne (dne q) (dne r))
theorem Sz.neg {j : Nat} {q : Rat} (h : Sz j q) : Sz j (-q) := by
  rw [← neg_di]
  exact Sz.di h.n.neg h.bd (dne q)
theorem Sz.mom {j : Nat} {q : Rat} (h : Sz j q) : Sz j (mom q) := by
  rw [← mom_di]
  exact Sz.di (h.bd.emod _ (dne q)) h.bd (dne q)
theorem Sz.int {j : Nat} {k : Int} (h : Bi j k) (hj : 0 < j) : Sz j (k : Rat) := ⟨by simpa using h, by simpa using Nat.one_lt_two_pow (by omega)⟩
@[simp ↓] theorem gMul_rat (c : Cs) (q : Rat) (y : D) (m : Mu) : gMul (rat c q) y m = .stuck := rfl
@[simp ↓] theorem gAdd_rat (c : Cs) (q : Rat) (y : D) (m : Mu) : gAdd (rat c q) y m = .stuck := rfl
@[simp ↓] theorem gSub_rat (c : Cs) (q : Rat) (y : D) (m : Mu) : gSub (rat c q) y m = .stuck := rfl
@[simp] theorem insOf_rat (m : Mu) (c : Cs) (q : Rat) : insOf m (rat c q) = some (c.cRatio, nsRatio, [.int q.num, .int q.den]) := rfl
@[simp] theorem kRatio_a (c : Cs) : (c.kRatio).a = c.cRatio := rfl
@[simp] theorem kRatio_ns (c : Cs) : (c.kRatio).ns = nsRatio := rfl
@[simp] theorem toV_rat (c : Cs) (q : Rat) (m : Mu) : tagOf m (rat c q) = some (.own c.cRatio) := rfl
theorem top_ok (c : Cs) (q : Rat) (m : Mu) : F_Ratio_top c [rat c q] m = .ok (.int q.num) m := by simp [F_Ratio_top, env0]
theorem bottom_ok (c : Cs) (q : Rat) (m : Mu) : F_Ratio_bottom c [rat c q] m = .ok (.int q.den) m := by simp [F_Ratio_bottom, env0]
theorem rmk (c : Cs) {k : Nat} {a b : Int} {m : Mu} (hb : b ≠ 0) (hl : Bi k b) (hk : k < 9000) (hm : Cl m) :
    mkObj c.cRatio m (F_RatioD_initD c [.loc m.length, .int a, .int b] (m ++ [.ins c.cRatio []])) = .ok (rat c (Rat.divInt a b)) m := mk_ratio c a hb (by have := hl.log; omega) hm
theorem add_ok (c : Cs) {j k : Nat} {q r : Rat} {m : Mu} (h : Sz j q) (h' : Sz k r) (hm : Cl m) (hk : j + k < 9000 := by decide) : F_RatioD_addD c [rat c q, rat c r] m = .ok (rat c (q + r)) m := by
  have e := rmk c (a := q.num * r.den + r.num * q.den) (mul_ne (dne q) (dne r)) (h.bd.mul h'.bd) hk hm
  rw [add_di] at e
  simp [F_RatioD_addD, env0, top_ok, bottom_ok, nd h h' (by omega), nd h' h (by omega), dd h h' (by omega), e]
theorem sub_ok (c : Cs) {j k : Nat} {q r : Rat} {m : Mu} (h : Sz j q) (h' : Sz k r) (hm : Cl m) (hk : j + k < 9000 := by decide) : F_RatioD_subD c [rat c q, rat c r] m = .ok (rat c (q - r)) m := by
  have e := rmk c (a := q.num * r.den - r.num * q.den) (mul_ne (dne q) (dne r)) (h.bd.mul h'.bd) hk hm
  rw [sub_di] at e
  simp [F_RatioD_subD, env0, top_ok, bottom_ok, nd h h' (by omega), nd h' h (by omega), dd h h' (by omega), e]
theorem below_ok (c : Cs) {j k : Nat} {q r : Rat} {m : Mu} (h : Sz j q) (h' : Sz k r) (hk : j + k < 9000 := by decide) : F_Ratio_is_below c [rat c q, rat c r] m = .ok (.bl (decide (q < r))) m := by
  simp [F_Ratio_is_below, env0, top_ok, bottom_ok, nd h h' (by omega), nd h' h (by omega), Rat.lt_iff]
theorem rmk1 (c : Cs) {k : Nat} {a : Int} {m : Mu} (hm : Cl m) :
    mkObj c.cRatio m (F_RatioD_initD c [.loc m.length, .int a, .int 1] (m ++ [.ins c.cRatio []])) = .ok (rat c (a : Rat)) m := by
  rw [rmk c (k := 1) (by decide) (by unfold Bi; decide) (by decide) hm]
  congr 2
  rw [Rat.divInt_eq_div]; simp only [Rat.intCast_one]; grind
theorem begin_ok (c : Cs) (ns : List Int) (hl : ns.length ≤ 63) : ∃ m, F_w_begin c [.lst (ns.map .int)] [] = .ok (.loc 0) m ∧ BagOk m ∧ Cl m := by
  have hs : sizeLine = 16777216 := rfl
  have hx : cutD (ns.map .int) none (some 63) = (ns.take 63).map D.int := by
    simp [cutD, HT.sIx]
  have hm : ∀ k : Nat, k ≤ 63 → mulOk 17 k = true := fun k hk => mulOk_lt (by omega) (by omega) (by omega) (by omega)
  have hm2 := hm (min 63 ns.length) (by omega)
  have hB : BagO (bagO (ns.take 63) 0 0 (100050 + 17 * (min 63 ns.length : Nat))) := bagO_mk (by omega) (by omega) (by omega) (by omega)
  refine ⟨[bagO (ns.take 63) 0 0 (100050 + 17 * (min 63 ns.length : Nat))], ?_, ⟨_, rfl, hB⟩, ?_⟩
  · simp [F_w_begin, env0, hx, hs, hm2, bagO]
  · intro o ho
    simp at ho
    subst ho
    exact hB.below _
@[simp ↓] theorem dCompL_cons (g : DG) (c : DT) (b : DE) (e : En) (d : D) (ds : List D) (m : Mu) (acc : List D) : dCompL g c b e (d :: ds) m acc = match g d e with
    | none => .stuck
    | some e1 => match c e1 m with
      | .ok true m1 => match b e1 m1 with
        | .ok x m2 => if acc.length < sizeLine then dCompL g c b e ds m2 (acc ++ [x]) else .stuck
        | _ => .stuck
      | .ok false m1 => dCompL g c b e ds m1 acc
      | _ => .stuck := rfl
theorem below_mono {j k : Nat} (h : j ≤ k) : ∀ d : D, below j d = true → below k d = true
  | .loc n, e => by unfold below at e ⊢; have := of_decide_eq_true e; exact decide_eq_true (by omega)
  | .tup ds, e => by unfold below at e ⊢; exact belows_mono' h ds e
  | .lst ds, e => by unfold below at e ⊢; exact belows_mono' h ds e
  | .obj _ ds, e => by unfold below at e ⊢; exact belows_mono' h ds e
  | .dct _ ds, e => by unfold below at e ⊢; exact belows_mono' h ds e
  | .xob _ _, e => by unfold below at e; cases e
  | .clo _ _, e => by unfold below at e; cases e
  | .lam _ _, e => by unfold below at e; cases e
  | .non, _ => rfl
  | .bl _, _ => rfl
  | .int _, _ => rfl
  | .str _, _ => rfl
  | .val _, _ => rfl
where belows_mono' {j k : Nat} (h : j ≤ k) : ∀ ds : List D, belows j ds = true → belows k ds = true
  | [], _ => rfl
  | d :: ds, e => by
    unfold belows at e ⊢
    obtain ⟨h1, h2⟩ := Bool.and_eq_true_iff.mp e
    exact Bool.and_eq_true_iff.mpr ⟨below_mono h d h1, belows_mono' h ds h2⟩
theorem belows_mono {j k : Nat} (h : j ≤ k) (ds : List D) (e : belows j ds = true) : belows k ds = true := by
  have := below_mono h (.tup ds) (by unfold below; exact e)
  unfold below at this; exact this
theorem Mo.below_mono {j' k' : Nat} (h : j' ≤ k') {o : Mo} (e : o.below j' = true) : o.below k' = true := by
  cases o with
  | lst ds => exact belows_mono h ds e
  | ins C fs => exact belows_mono h _ e
  | exo C k => cases k with
    | none => rfl
    | some k => exact decide_eq_true (Nat.lt_of_lt_of_le (of_decide_eq_true (show decide (k < j') = true from e)) h)
  | exd fs => exact belows_mono h _ e
  | dik kvs => exact belows_mono h _ e
  | dit kvs => exact belows_mono h _ e
theorem _root_.DL.Cl.snoc {m : Mu} (h : Cl m) {o : Mo} (ho : o.below (m.length + 1) = true) : Cl (m ++ [o]) := by
  intro q hq
  rw [List.length_append, List.length_singleton]
  rcases List.mem_append.mp hq with z | z
  · exact Mo.below_mono (Nat.le_succ _) (h q z)
  · have : q = o := List.mem_singleton.mp z
    subst this; exact ho
theorem _root_.DL.Cl.ins0 {m : Mu} (h : Cl m) (C : Addr) : Cl (m ++ [.ins C []]) := h.snoc rfl
theorem isratio_ok (c : Cs) (q : Rat) (m : Mu) : F_is_ratio c [rat c q] m = .ok (.bl true) m := by
  simp [F_is_ratio, env0, ans_Ratio__Ratio, Ans.get]
theorem eq_ok (c : Cs) (q r : Rat) (m : Mu) : F_RatioD_eqD c [rat c q, rat c r] m = .ok (.bl (decide (q = r))) m := by
  have h : (q = r) ↔ (q.num = r.num ∧ q.den = r.den) := ⟨fun e => by subst e; exact ⟨rfl, rfl⟩, fun e => Rat.ext e.1 e.2⟩
  by_cases h1 : q.num = r.num
  · by_cases h2 : q.den = r.den
    · simp [F_RatioD_eqD, env0, ans_Ratio__Ratio, Ans.get, top_ok, bottom_ok, h, h1, h2]
    · have h3 : ¬ (q.den : Int) = r.den := by omega
      simp [F_RatioD_eqD, env0, ans_Ratio__Ratio, Ans.get, top_ok, bottom_ok, h, h1, h2, h3]
  · simp [F_RatioD_eqD, env0, ans_Ratio__Ratio, Ans.get, top_ok, bottom_ok, h, h1]
theorem between_ok (c : Cs) {k : Nat} {q : Rat} (h : Sz k q) (lo hi : Int) {m : Mu} (hm : Cl m) (h1 : Bi 100 lo) (h2 : Bi 100 hi) (hk : k < 8000 := by decide) : F_is_between c [rat c q, .int lo, .int hi] m = .ok (.bl (decide ((lo : Rat) ≤ q ∧ q ≤ (hi : Rat)))) m := by
  have e1 := rmk1 c (a := lo) hm (k := 0)
  have e2 := rmk1 c (a := hi) hm (k := 0)
  have s1 : Sz 100 (lo : Rat) := Sz.int h1 (by decide)
  have s2 : Sz 100 (hi : Rat) := Sz.int h2 (by decide)
  have b1 := below_ok c h s1 (m := m) (by omega)
  have b2 := below_ok c s2 h (m := m) (by omega)
  have n1 : ((lo : Rat) ≤ q) ↔ ¬ q < (lo : Rat) := by rw [Rat.not_lt]
  have n2 : (q ≤ (hi : Rat)) ↔ ¬ (hi : Rat) < q := by rw [Rat.not_lt]
  by_cases z1 : q < (lo : Rat)
  · simp [F_is_between, env0, ans_Ratio__Ratio, Ans.get, e1, b1, z1, n1]
  · by_cases z2 : (hi : Rat) < q
    · simp [F_is_between, env0, ans_Ratio__Ratio, Ans.get, e1, e2, b1, b2, z1, z2, n1, n2, gIsN]
    · simp [F_is_between, env0, ans_Ratio__Ratio, Ans.get, e1, e2, b1, b2, z1, z2, n1, n2, gIsN]
theorem comp_rng {g : DG} {cc : DT} {b : DE} {e : En} {m : Mu} (n : Nat) (f : Nat → D) (h : ∀ k : Nat, k < n → ∃ e1, g (.int k) e = some e1 ∧ cc e1 m = .ok true m ∧ b e1 m = .ok (f k) m) (hl : n ≤ sizeLine) :
    dCompL g cc b e (rngD 0 n) m [] = .ok ((List.range n).map f) m := by
  have hf : ∀ d, d ∈ rngD 0 n → ∃ k : Nat, k < n ∧ d = .int k := fun d hd => by
    unfold rngD at hd
    obtain ⟨k, hk, rfl⟩ := List.mem_map.mp hd
    exact ⟨k, List.mem_range.mp hk, by simp⟩
  rw [dCompL_map (fun d => match d with
    | .int i => f i.toNat
    | d => d)]
  · simp [rngD, Function.comp_def]
  · intro d hd
    obtain ⟨k, hk, rfl⟩ := hf d hd
    obtain ⟨e1, h1, h2, h3⟩ := h k hk
    exact ⟨e1, h1, h2, by simpa using h3⟩
  · simpa [rngD] using hl
theorem di_sub (a b P : Int) : Rat.divInt a P - Rat.divInt b P = Rat.divInt (a - b) P := by
  rw [Rat.divInt_eq_div, Rat.divInt_eq_div, Rat.divInt_eq_div, Rat.intCast_sub]
  rw [Rat.div_def, Rat.div_def, Rat.div_def]; grind
theorem di_add (a b P : Int) : Rat.divInt a P + Rat.divInt b P = Rat.divInt (a + b) P := by
  rw [Rat.divInt_eq_div, Rat.divInt_eq_div, Rat.divInt_eq_div, Rat.intCast_add]
  rw [Rat.div_def, Rat.div_def, Rat.div_def]; grind
theorem di_le {a b P : Int} (hP : 0 < P) : Rat.divInt a P ≤ Rat.divInt b P ↔ a ≤ b := by
  have hp : (0 : Rat) < (P : Rat) := by rw [← Rat.intCast_zero]; exact Rat.intCast_lt_intCast.mpr hP
  rw [Rat.divInt_eq_div, Rat.divInt_eq_div]
  rw [← Rat.intCast_le_intCast (a := a) (b := b)]
  constructor
  · intro h
    have h2 := Rat.mul_le_mul_of_nonneg_right h (Rat.le_of_lt hp)
    rwa [Rat.div_mul_cancel (Rat.ne_of_gt hp), Rat.div_mul_cancel (Rat.ne_of_gt hp)] at h2
  · intro h
    rw [Rat.div_def, Rat.div_def]
    exact Rat.mul_le_mul_of_nonneg_right h (Rat.le_of_lt (Rat.inv_pos.mpr hp))
theorem di_self {P : Int} (hP : 0 < P) : Rat.divInt P P = 1 := Rat.divInt_self' (by omega)
theorem di_zero (P : Int) : Rat.divInt 0 P = 0 := Rat.zero_divInt P
theorem negR_ok (c : Cs) {j : Nat} {q : Rat} {m : Mu} (h : Sz j q) (hm : Cl m) (hk : j < 9000 := by decide) : F_RatioD_negD c [rat c q] m = .ok (rat c (-q)) m := by
  have e := rmk c (a := -q.num) (dne q) h.bd hk hm
  rw [neg_di] at e
  simp [F_RatioD_negD, env0, e]
def letters : Str := "abcdefghijklmnopqrstuvwxyz"
def sgn (k : Nat) : Str := ⟨#[97 + k]⟩
theorem letters_eq : letters.cps.toList = (List.range 26).map fun k => 97 + k := by decide +kernel
theorem letters_len : letters.length = 26 := by decide +kernel
def Low (x : Str) : Prop := ∀ ch ∈ x.cps.toList, 97 ≤ ch ∧ ch ≤ 122
structure Good (x : Str) : Prop where
  lo : 1 ≤ x.length
  hi : x.length ≤ 8
  low : Low x
theorem sgn_in : ∀ k < 26, occurs (sgn k) letters = true := by decide +kernel
theorem letter_at {k : Int} (h0 : 0 ≤ k) (h1 : k < 26) : atI letters.cps.toList k = some (97 + k.toNat) := by
  obtain ⟨j, rfl⟩ := Int.eq_ofNat_of_zero_le h0
  rw [letters_eq, DL.atI_nat, List.getElem?_map, List.getElem?_range (by omega)]
  simp
theorem ix_letter {k : Int} (h0 : 0 ≤ k) (h1 : k < 26) (m : Mu) : gIx (.str letters) (.int k) m = .ok (.str (sgn k.toNat)) m := by
  have hs : sizeLine = 16777216 := rfl
  have e : gIx (.str letters) (.int k) m = if letters.length ≤ sizeLine then (match atI letters.cps.toList k with
      | some ch => .ok (.str ⟨#[ch]⟩) m
      | none => .stuck) else .stuck := rfl
  rw [e, if_pos (by rw [letters_len, hs]; omega), letter_at h0 h1]
  rfl
theorem sgn_low {k : Nat} (h : k < 26) : Low (sgn k) := by
  intro ch hch
  have : ch = 97 + k := by simpa [sgn] using hch
  omega
theorem sgn_len (k : Nat) : (sgn k).length = 1 := rfl
theorem name_ok (c : Cs) {x : Str} (h : Good x) (m : Mu) : F_is_name c [.str x] m = .ok (.bl true) m := by
  have hs : sizeLine = 16777216 := rfl
  have h1 := h.lo
  have h2 := h.hi
  have hm := dCompL_map (g := dName 1) (c := dYes) (b := C_is_name_1 c) (e := [some (.str x), none]) (m := m) (fun _ => .bl true) (signs x) [] (fun d hd => by
    unfold signs at hd
    obtain ⟨ch, hch, rfl⟩ := List.mem_map.mp hd
    have hr := h.low ch hch
    refine ⟨[some (.str x), some (.str ⟨#[ch]⟩)], by simp, by simp, ?_⟩
    have e : (⟨#[ch]⟩ : Str) = sgn (ch - 97) := by unfold sgn; congr; omega
    have o := sgn_in (ch - 97) (by omega)
    rw [← e] at o
    have o' : occurs ⟨#[ch]⟩ (Str.ofString "abcdefghijklmnopqrstuvwxyz") = true := o
    simp [C_is_name_1_ap, o']) (by
    have : (signs x).length = x.length := by unfold signs Str.length; simp
    rw [this, hs]; simp; omega)
  have e2 : ([] : List D) ++ (signs x).map (fun _ => D.bl true) = List.replicate (signs x).length (.bl true) := List.eq_replicate_iff.mpr ⟨by simp, by simp⟩
  rw [e2] at hm
  have z1 : (1 : Int) ≤ x.length := by omega
  have z2 : (x.length : Int) ≤ 8 := by omega
  have z3 : x.length ≤ 16777216 := by omega
  simp [F_is_name, env0, ans_str, tagOf, Ans.get, primNames, hs, z1, z2, z3, h1, h2, hm, toBs_trues]
theorem joinL_nil : ∀ ps : List (List Nat), TL.joinL [] ps = ps.flatten
  | [] => rfl
  | [p] => by simp [TL.joinL]
  | p :: q :: r => by
    show p ++ ([] ++ TL.joinL [] (q :: r)) = _
    rw [joinL_nil (q :: r)]; simp
inductive Two (P : D → D → Prop) : List D → List D → Prop
  | nil : Two P [] []
  | cons {d x : D} {ds xs : List D} : P d x → Two P ds xs → Two P (d :: ds) (x :: xs)
theorem Two.len {P : D → D → Prop} : ∀ {ds xs : List D}, Two P ds xs → xs.length = ds.length
  | _, _, .nil => rfl
  | _, _, .cons _ t => by simp [Two.len t]
theorem Two.all {P : D → D → Prop} {Q : D → Prop} : ∀ {ds xs : List D}, Two P ds xs → (∀ d x, P d x → Q x) → ∀ x ∈ xs, Q x
  | _, _, .nil, _, _, h => nomatch h
  | _, _, .cons p t, f, x, h => by
    rcases List.mem_cons.mp h with e | e
    · subst e; exact f _ _ p
    · exact Two.all t f x e
theorem comp_draw {g : DG} {cc : DT} {b : DE} {e : En} (P : D → D → Prop) : ∀ (ds acc : List D) (m : Mu), BagOk m →
    (∀ d ∈ ds, ∀ m, BagOk m → ∃ e1 x m', g d e = some e1 ∧ cc e1 m = .ok true m ∧ b e1 m = .ok x m' ∧ P d x ∧ Bgs m m') → acc.length + ds.length ≤ sizeLine →
    ∃ xs m', dCompL g cc b e ds m acc = .ok (acc ++ xs) m' ∧ Two P ds xs ∧ Bgs m m'
  | [], acc, m, hb, _, _ => ⟨[], m, by simp, .nil, hb.rfl'⟩
  | d :: ds, acc, m, hb, h, hl => by
    obtain ⟨e1, x, m', h1, h2, h3, h4, h5⟩ := h d (by simp) m hb
    obtain ⟨xs, m2, k1, k2, k3⟩ := comp_draw P ds (acc ++ [x]) m' (h5.bag hb) (fun y hy => h y (by simp [hy])) (by simp at hl ⊢; omega)
    refine ⟨x :: xs, m2, ?_, .cons h4 k2, h5.trans k3⟩
    rw [dCompL_cons, h1]
    simp only [h2, h3]
    rw [if_pos (by simp at hl; omega), k1]
    simp
theorem one_letter (c : Cs) {m : Mu} (hb : BagOk m) : ∃ k m', F_w_one c [.loc 0, .str letters] m = .ok (.str (sgn k)) m' ∧ k < 26 ∧ Bgs m m' := by
  have hs : sizeLine = 16777216 := rfl
  obtain ⟨v, m', e, h1, h2, h3⟩ := take_ok c hb (n := 26) (by omega) (by omega)
  refine ⟨v.toNat, m', ?_, by omega, h3⟩
  have i := ix_letter h1 h2 m'
  have l : gLen [.str letters] m = .ok (.int 26) m := by
    rw [show gLen [.str letters] m = if letters.length ≤ sizeLine then Res.ok (.int letters.length) m else .stuck from rfl, if_pos (by rw [letters_len, hs]; omega), letters_len]; rfl
  simp [F_w_one, env0, l, e, i, -gLen_ap]
theorem toSs_two {ds xs : List D} (h : Two (fun _ x => ∃ k, x = .str (sgn k) ∧ k < 26) ds xs) : ∃ ys, toSs xs = some ys ∧ ys.length = ds.length ∧ ∀ y ∈ ys, Low y ∧ y.length = 1 := by
  induction h with
  | nil => exact ⟨[], rfl, rfl, fun y h => nomatch h⟩
  | cons p t ih =>
    obtain ⟨k, rfl, hk⟩ := p
    obtain ⟨ys, h1, h2, h3⟩ := ih
    refine ⟨sgn k :: ys, by simp [toSs, h1], by simp [h2], fun y hy => ?_⟩
    rcases List.mem_cons.mp hy with e | e
    · subst e; exact ⟨sgn_low hk, rfl⟩
    · exact h3 y e
theorem join_low {ys : List Str} (h : ∀ y ∈ ys, Low y ∧ y.length = 1) : Low (Txt.join "" ys) ∧ (Txt.join "" ys).length = ys.length := by
  have e : (Txt.join "" ys).cps.toList = (ys.map fun y => y.cps.toList).flatten := by
    rw [TL.join_eq]
    have := TL.tl_join "" ys
    have e0 : TL.tl ("" : Str) = [] := by decide +kernel
    rw [e0, joinL_nil] at this
    exact this
  constructor
  · intro ch hch
    rw [e] at hch
    obtain ⟨l, hl, hch⟩ := List.mem_flatten.mp hch
    obtain ⟨y, hy, rfl⟩ := List.mem_map.mp hl
    exact (h y hy).1 ch hch
  · have hl : ∀ zs : List Str, (∀ z ∈ zs, z.length = 1) → ((zs.map fun y => y.cps.toList).flatten).length = zs.length := fun zs => by
      induction zs with
      | nil => intro _; rfl
      | cons z zs ih =>
        intro hz
        have h1 := hz z (by simp)
        have h2 := ih fun y hy => hz y (by simp [hy])
        have e1 : z.cps.toList.length = 1 := by rw [← h1]; simp [Str.length]
        rw [List.map_cons, List.flatten_cons, List.length_append, h2, e1, List.length_cons]
        omega
    have e2 : (Txt.join "" ys).length = (Txt.join "" ys).cps.toList.length := by simp [Str.length]
    rw [e2, e, hl ys fun y hy => (h y hy).2]
def nameAt (stem : Str) (a f : Int) (k : Nat) : Str := cutS stem none (some a) ++ sgn ((f + 5 * k) % 26).toNat ++ cutS stem (some a) none
theorem cut_lo (x : Str) {a : Int} (h0 : 0 ≤ a) (h1 : a ≤ x.length) : (cutS x none (some a)).cps.toList = x.cps.toList.take a.toNat := by
  obtain ⟨j, rfl⟩ := Int.eq_ofNat_of_zero_le h0
  have hj : j ≤ x.length := by omega
  unfold cutS
  rw [HT.sIx_none, HT.sIx_nat]
  simp [Nat.min_eq_left hj]
theorem cut_hi (x : Str) {a : Int} (h0 : 0 ≤ a) (h1 : a ≤ x.length) : (cutS x (some a) none).cps.toList = x.cps.toList.drop a.toNat := by
  obtain ⟨j, rfl⟩ := Int.eq_ofNat_of_zero_le h0
  have hj : j ≤ x.length := by omega
  unfold cutS
  rw [HT.sIx_none, HT.sIx_nat]
  have hj' : min j x.length = j := Nat.min_eq_left hj
  rw [hj']
  show (List.take (x.length - j) (List.drop (Int.toNat (j : Int)) x.cps.toList)).toArray.toList = _
  simp only [Int.toNat_natCast]
  exact List.take_of_length_le (by simp [Str.length])
theorem nameAt_cps {x : Str} {a f : Int} (h0 : 0 ≤ a) (h1 : a ≤ x.length) (k : Nat) : (nameAt x a f k).cps.toList = x.cps.toList.take a.toNat ++ [97 + ((f + 5 * k) % 26).toNat] ++ x.cps.toList.drop a.toNat := by
  unfold nameAt
  have e : ∀ y z : Str, (y ++ z).cps.toList = y.cps.toList ++ z.cps.toList := fun y z => by rw [Str.cps_append]; simp
  rw [e, e, cut_lo x h0 h1, cut_hi x h0 h1]; rfl
theorem nameAt_good {x : Str} {a f : Int} (h0 : 0 ≤ a) (h1 : a ≤ x.length) (hx : x.length ≤ 7) (hl : Low x) (k : Nat) : Good (nameAt x a f k) := by
  have hc := nameAt_cps (f := f) h0 h1 k
  have hlen : (nameAt x a f k).length = x.length + 1 := by
    have e1 : (nameAt x a f k).length = (nameAt x a f k).cps.toList.length := by simp [Str.length]
    have e2 : x.length = x.cps.toList.length := by simp [Str.length]
    rw [e1, hc]
    simp only [List.length_append, List.length_take, List.length_drop, List.length_singleton]
    omega
  refine ⟨by omega, by omega, fun ch hch => ?_⟩
  rw [hc] at hch
  simp only [List.mem_append, List.mem_singleton] at hch
  rcases hch with (h | h) | h
  · exact hl ch (List.mem_of_mem_take h)
  · have := mod_b (a := f + 5 * k) (n := 26) (by decide); omega
  · exact hl ch (List.mem_of_mem_drop h)
theorem nameAt_inj {x : Str} {a f : Int} (h0 : 0 ≤ a) (h1 : a ≤ x.length) {j k : Nat} (hj : j < 26) (hk : k < 26) (h : nameAt x a f j = nameAt x a f k) : j = k := by
  have e := congrArg (fun y : Str => y.cps.toList) h
  simp only [nameAt_cps h0 h1, List.append_assoc, List.append_cancel_left_eq, List.singleton_append, List.cons.injEq, and_true] at e
  have := mod_b (a := f + 5 * j) (n := 26) (by decide)
  have := mod_b (a := f + 5 * k) (n := 26) (by decide)
  omega
theorem names_ok (c : Cs) {m : Mu} (hb : BagOk m) {n : Int} (h0 : 0 ≤ n) (h1 : n ≤ 26) :
    ∃ (xs : List Str) (m' : Mu), F_w_names c [.loc 0, .int n] m = .ok (.lst (xs.map .str)) m' ∧ xs.length = n.toNat ∧ (∀ x ∈ xs, Good x) ∧ xs.Nodup ∧ Bgs m m' := by
  have hs : sizeLine = 16777216 := rfl
  obtain ⟨d1, m1, e1, hd1, g1⟩ := one_ok c hb (ds := [.int 0, .int 0, .int 1, .int 3, .int 7]) (by simp) (by simp)
  obtain ⟨j, rfl, j0, j1⟩ : ∃ j : Int, d1 = .int j ∧ 0 ≤ j ∧ j ≤ 7 := by
    simp at hd1
    rcases hd1 with rfl | rfl | rfl | rfl <;> exact ⟨_, rfl, by decide, by decide⟩
  have b1 := g1.bag hb
  obtain ⟨zs, m2, e2, t2, g2⟩ := comp_draw (g := dName 4) (cc := dYes) (b := C_w_names_1 c) (e := [some (.loc 0), some (.int n), some (.str letters), none, none, none, none]) (fun _ x => ∃ k, x = .str (sgn k) ∧ k < 26) (rngD 0 j.toNat) [] m1 b1
    (fun d hd m hm => by
      obtain ⟨k, m', e, hk, g⟩ := one_letter c hm
      exact ⟨[some (.loc 0), some (.int n), some (.str letters), none, some d, none, none], .str (sgn k), m', by simp, by simp, by simp [C_w_names_1_ap, e], ⟨k, rfl, hk⟩, g⟩)
    (by simp [rngD, hs]; omega)
  have b2 := g2.bag b1
  obtain ⟨ys, y1, y2, y3⟩ := toSs_two t2
  have yl : ys.length = j.toNat := by rw [y2]; simp [rngD]
  obtain ⟨w1, w2⟩ := join_low y3
  have ysum : (ys.map (·.length)).sum = ys.length := by
    clear y1 y2 yl w1 w2
    induction ys with
    | nil => rfl
    | cons y ys ih => simp only [List.map_cons, List.sum_cons, List.length_cons, (y3 y (by simp)).2, ih fun z hz => y3 z (by simp [hz])]; omega
  obtain ⟨stem, hst⟩ : ∃ s, Txt.join "" ys = s := ⟨_, rfl⟩
  rw [hst] at w1 w2
  have e0 : (Str.ofString "").length = 0 := by decide +kernel
  have sl : stem.length ≤ 7 := by omega
  obtain ⟨a, m3, e3, a0, a1, g3⟩ := take_ok c b2 (n := (stem.length : Int) + 1) (by omega) (by omega)
  have b3 := g3.bag b2
  obtain ⟨f, m4, e4, f0, f1, g4⟩ := take_ok c b3 (n := 26) (by decide) (by decide)
  have ha : a ≤ stem.length := by omega
  have hn := comp_rng (g := dName 4) (cc := dYes) (b := C_w_names_2 c) (e := [some (.loc 0), some (.int n), some (.str letters), some (.str stem), none, some (.int a), some (.int f)]) (m := m4) n.toNat (fun k => .str (nameAt stem a f k))
    (fun k hk => ⟨[some (.loc 0), some (.int n), some (.str letters), some (.str stem), some (.int k), some (.int a), some (.int f)], by simp, by simp, by
      have q1 : mulOk 5 k = true := mulOk_lt (by omega) (by omega) (by omega) (by omega)
      have hr := mod_b (a := f + 5 * (k : Int)) (n := 26) (by decide)
      have q2 := ix_letter hr.1 hr.2 m4
      have l1 := cutS_length stem none (some a)
      have l2 := cutS_length stem (some a) none
      have z1 : (cutS stem none (some a)).length + 1 ≤ 16777216 := by omega
      have z1' : (cutS stem none (some a)).length ≤ 16777215 := by omega
      have z2 : (cutS stem none (some a)).length + 1 + (cutS stem (some a) none).length ≤ 16777216 := by omega
      have z3 : stem.length ≤ 16777216 := by omega
      simp [C_w_names_2_ap, q1, q2, z3, hs, sgn_len, z1, z1', z2, Str.length_append, nameAt]⟩) (by omega)
  have l1 : -4611686018427387904 ≤ n := by omega
  have l2 : n < 4611686018427387904 := by omega
  have l3 : -4611686018427387904 ≤ j := by omega
  have l4 : j < 4611686018427387904 := by omega
  have z4 : stem.length ≤ 16777216 := by omega
  have z5 : ys.length ≤ 16777216 := by omega
  have hlet : Str.ofString "abcdefghijklmnopqrstuvwxyz" = letters := rfl
  refine ⟨(List.range n.toNat).map (nameAt stem a f), m4, ?_, by simp, fun x hx => ?_, ?_, ((g1.trans g2).trans g3).trans g4⟩
  · have hst' : Txt.join (Str.ofString "") ys = stem := hst
    have hn' : ∀ F : Nat → D, (F = fun k => .str (nameAt stem a f k)) → True := fun _ _ => trivial
    simp [F_w_names, env0, hlet, e1, l3, l4, e2, y1, ysum, e0, z5, hst', z4, hs, e3, e4, l1, l2, hn, Function.comp_def]
  · obtain ⟨k, hk, rfl⟩ := List.mem_map.mp hx
    exact nameAt_good a0 ha sl w1 k
  · have hinj : ∀ l : List Nat, l.Nodup → (∀ x ∈ l, x < 26) → (l.map (nameAt stem a f)).Nodup := fun l => by
      induction l with
      | nil => intro _ _; simp
      | cons x l ih =>
        intro hnd hlt
        rw [List.nodup_cons] at hnd
        rw [List.map_cons, List.nodup_cons]
        refine ⟨fun hmem => ?_, ih hnd.2 fun y hy => hlt y (by simp [hy])⟩
        obtain ⟨y, hy, e⟩ := List.mem_map.mp hmem
        have := nameAt_inj a0 ha (hlt y (by simp [hy])) (hlt x (by simp)) e
        subst this
        exact hnd.1 hy
    exact hinj _ List.nodup_range fun x hx => by have := List.mem_range.mp hx; omega
theorem betweenN_ok (c : Cs) {k : Nat} {q : Rat} (h : Sz k q) (lo : Int) {m : Mu} (hm : Cl m) (h1 : Bi 100 lo) (hk : k < 8000 := by decide) : F_is_between c [rat c q, .int lo, .non] m = .ok (.bl (decide ((lo : Rat) ≤ q))) m := by
  have e1 := rmk1 c (a := lo) hm (k := 0)
  have s1 : Sz 100 (lo : Rat) := Sz.int h1 (by decide)
  have b1 := below_ok c h s1 (m := m) (by omega)
  have n1 : ((lo : Rat) ≤ q) ↔ ¬ q < (lo : Rat) := by rw [Rat.not_lt]
  by_cases z1 : q < (lo : Rat)
  · simp [F_is_between, env0, ans_Ratio__Ratio, Ans.get, e1, b1, z1, n1]
  · simp [F_is_between, env0, ans_Ratio__Ratio, Ans.get, e1, b1, z1, n1, gIsN]
theorem bool_ok (c : Cs) (q : Rat) (m : Mu) : F_RatioD_boolD c [rat c q] m = .ok (.bl (q.num != 0)) m := by
  simp [F_RatioD_boolD, env0]
theorem share_ok (c : Cs) {k : Nat} {q : Rat} (h : Sz k q) (h0 : 0 < q) (h1 : q < 1) {m : Mu} (hm : Cl m) (hk : k < 8000 := by decide) : F_need_share c [rat c q] m = .ok .non m := by
  have e1 := between_ok c h 0 1 hm (by unfold Bi; decide) (by unfold Bi; decide) hk
  have z : decide (((0 : Int) : Rat) ≤ q ∧ q ≤ ((1 : Int) : Rat)) = true := by simp [Rat.le_of_lt h0, Rat.le_of_lt h1]
  rw [z] at e1
  have hn : ¬ q = 0 := fun e => by subst e; exact absurd h0 (by decide)
  have h1' : ¬ q = 1 := Rat.ne_of_lt h1
  have e2 := rmk1 c (a := 1) hm (k := 0)
  simp only [Rat.intCast_one] at e2
  have hd : dTru m (rat c q) = none := rfl
  simp [F_need_share, env0, e1, e2, hd, bool_ok, eq_ok, hn, h1']
structure Row where
  nm : Str
  s : Int
  o : Int
  b : Int
def rowD (r : Row) : D := .tup [.str r.nm, .int r.s, .int r.o, .int r.b]
structure RowOk (P : Int) (r : Row) : Prop where
  nm : Good r.nm
  s0 : 0 < r.s
  s1 : r.s < P
  o0 : 0 ≤ r.o
  o1 : r.o ≤ 3 * P
  b0 : 0 ≤ r.b
  b1 : r.b ≤ 3 * P
theorem q_pos {P a : Int} (hP : 0 < P) (h : 0 < a) : 0 < Rat.divInt a P := by rw [← di_zero P, ← Rat.not_le, di_le hP]; omega
theorem q_lt1 {P a : Int} (hP : 0 < P) (h : a < P) : Rat.divInt a P < 1 := by rw [← di_self hP, ← Rat.not_le, di_le hP]; omega
theorem steps_ok (c : Cs) {m : Mu} (hb : BagOk m) : ∃ (P : Int) (m' : Mu), F_w_steps c [.loc 0] m = .ok (.int P) m' ∧ 2 ≤ P ∧ P ≤ 40 ∧ Bgs m m' := by
  have hs : sizeLine = 16777216 := rfl
  obtain ⟨d1, m1, e1, h1, g1⟩ := one_ok c hb (ds := [.int 2, .int 3, .int 4, .int 5, .int 6, .int 8, .int 10, .int 12, .int 15, .int 20]) (by simp) (by simp)
  obtain ⟨n1, rfl, p1, l1⟩ : ∃ n : Int, d1 = .int n ∧ 2 ≤ n ∧ n ≤ 20 := by
    simp at h1
    rcases h1 with rfl | rfl | rfl | rfl | rfl | rfl | rfl | rfl | rfl | rfl <;> exact ⟨_, rfl, by decide, by decide⟩
  refine ⟨n1, m1, ?_, p1, by omega, g1⟩
  simp [F_w_steps, env0, hs, e1]
structure Lt where
  x : Str
  s : Rat
  o : Rat
  b : Rat
  deriving DecidableEq
theorem inV_str (x : Str) : ∀ xs : List Str, inV (.str x) (xs.map V.str) = decide (x ∈ xs)
  | [] => by simp [inV]
  | y :: xs => by
    have ih := inV_str x xs
    unfold inV at ih ⊢
    rw [List.map_cons, List.any_cons, ih]
    by_cases h : x = y
    · subst h; simp [eqV]
    · have h' : ¬ y = x := fun e => h e.symm
      simp [eqV, h, h']
theorem toVs_strs : ∀ xs : List Str, toVs (xs.map D.str) = some (xs.map V.str)
  | [] => rfl
  | x :: xs => by simp [toVs, toV, toVs_strs xs]
theorem gIn_strs (x : Str) (xs : List Str) (m : Mu) : gIn (.str x) (.lst (xs.map .str)) m = .ok (.bl (decide (x ∈ xs))) m := by
  have e : gInQ false (.str x) (.lst (xs.map .str)) m = .ok (.bl (decide (x ∈ xs))) m := by
    unfold gInQ
    simp only [toV, seqA_lst, Option.bind_some, toVs_strs, inV_str, Bool.false_xor]
  show orD (gInS false) (gInQ false) _ _ m = _
  unfold orD
  rw [show gInS false (.str x) (.lst (xs.map .str)) m = .stuck from rfl]
  exact e
theorem cutD_take (xs : List D) (k : Nat) : cutD xs none (some (k : Int)) = xs.take k := by
  unfold cutD
  rw [HT.sIx_none, HT.sIx_nat]
  simp only [List.drop_zero, Nat.sub_zero]
  by_cases h : k ≤ xs.length
  · rw [Nat.min_eq_left h]
  · rw [Nat.min_eq_right (by omega), List.take_of_length_le (Nat.le_refl _), List.take_of_length_le (by omega)]
theorem filt_true {α : Type} (xs : List α) : (xs.filter fun _ => true) = xs := by simp
theorem loop_rel {α : Type} {g : DG} {b : DS} {F : α → D} (I : List α → En → Mu → Prop) : ∀ (xs pre : List α) (e : En) (m : Mu), (∀ pre' a post, pre ++ xs = pre' ++ a :: post → ∀ e m, I pre' e m → ∃ e1 e2 m2, g (F a) e = some e1 ∧ b e1 m = .nx e2 m2 ∧ I (pre' ++ [a]) e2 m2) → I pre e m →
    ∃ e2 m2, dLoop g b (xs.map F) e m = .nx e2 m2 ∧ I (pre ++ xs) e2 m2
  | [], pre, e, m, _, h => ⟨e, m, rfl, by simpa using h⟩
  | x :: xs, pre, e, m, hs, h => by
    obtain ⟨e1, e2, m2, h1, h2, h3⟩ := hs pre x xs rfl e m h
    obtain ⟨e3, m3, h4, h5⟩ := loop_rel (F := F) I xs (pre ++ [x]) e2 m2 (fun p a q hx e m hi => hs p a q (by rw [← hx]; simp) e m hi) h3
    refine ⟨e3, m3, ?_, by simpa using h5⟩
    rw [List.map_cons, dLoop_step h1 h2]
    exact h4
def dst (N a : Int) : Int := if N - a % N < a % N then N - a % N else a % N
theorem dst_nn {N : Int} (h : 0 < N) (a : Int) : 0 ≤ dst N a := by
  unfold dst; have := mod_b (a := a) h; split <;> omega
structure Tops (S T : Lt → Int) (P : Int) (ls : List Lt) (R : Int) : Prop where
  le : ∀ x M : Int, (∀ l ∈ ls, M ≤ 2 * S l - dst (2 * P) (x + 2 * T l)) → M ≤ R
  at_ : ∃ x : Int, ∀ l ∈ ls, R ≤ 2 * S l - dst (2 * P) (x + 2 * T l)
theorem dst_half {N : Int} (h : 0 < N) (a : Int) : 2 * dst N a ≤ N := by
  unfold dst; have := mod_b (a := a) h; split <;> omega
theorem Tops.bd {S T : Lt → Int} {P : Nat} (hP : 0 < P) {ls : List Lt} {R : Int} (h : Tops S T P ls R) (h0 : ∀ l ∈ ls, 0 ≤ S l) : -(P : Int) ≤ R ∧ ∀ l ∈ ls, R ≤ 2 * S l := by
  refine ⟨h.le 0 _ fun l hl => ?_, fun l hl => ?_⟩
  · have := dst_half (N := 2 * P) (by omega) (0 + 2 * T l)
    have := h0 l hl
    omega
  · obtain ⟨x, hx⟩ := h.at_
    have := dst_nn (N := 2 * P) (by omega) (x + 2 * T l)
    have := hx l hl
    omega
@[simp] theorem ix_row0 (r : Row) (m : Mu) : gIx (rowD r) (.int 0) m = .ok (.str r.nm) m := rfl
@[simp] theorem ix_row1 (r : Row) (m : Mu) : gIx (rowD r) (.int 1) m = .ok (.int r.s) m := rfl
@[simp] theorem ix_row2 (r : Row) (m : Mu) : gIx (rowD r) (.int 2) m = .ok (.int r.o) m := rfl
@[simp] theorem ix_row3 (r : Row) (m : Mu) : gIx (rowD r) (.int 3) m = .ok (.int r.b) m := rfl
theorem loop_find {α : Type} {g : DG} {b : DS} {F : α → D} {m : Mu} (p : α → Bool) (v : D) (I : En → Prop) : ∀ (xs : List α) (e : En), (∀ a ∈ xs, ∀ e, I e → ∃ e1, g (F a) e = some e1 ∧ (p a = true → b e1 m = .rt v m) ∧ (p a = false → ∃ e2, b e1 m = .nx e2 m ∧ I e2)) → I e →
    (xs.any p = true ∧ dLoop g b (xs.map F) e m = .rt v m) ∨ (xs.any p = false ∧ ∃ e2, dLoop g b (xs.map F) e m = .nx e2 m ∧ I e2)
  | [], e, _, h => .inr ⟨rfl, e, rfl, h⟩
  | x :: xs, e, hs, h => by
    obtain ⟨e1, h1, h2, h3⟩ := hs x (by simp) e h
    cases hp : p x with
    | true =>
      refine .inl ⟨by simp [hp], ?_⟩
      rw [List.map_cons, dLoop.eq_def]
      simp only [h1, h2 hp]
    | false =>
      obtain ⟨e2, k1, k2⟩ := h3 hp
      rcases loop_find p v I xs e2 (fun a ha => hs a (by simp [ha])) k2 with ⟨z1, z2⟩ | ⟨z1, z2⟩
      · exact .inl ⟨by simp [hp, z1], by rw [List.map_cons, dLoop_step h1 k1]; exact z2⟩
      · exact .inr ⟨by simp [hp, z1], by rw [List.map_cons, dLoop_step h1 k1]; exact z2⟩
theorem rngD_map (n : Nat) : rngD 0 n = (List.range n).map fun k : Nat => D.int k := by simp [rngD]
theorem dSeq_nx {t u : DS} {e e1 : En} {m m1 : Mu} (h : t e m = .nx e1 m1) : dSeq t u e m = u e1 m1 := by
  unfold dSeq; rw [h]
structure RowG (P : Int) (r : Row) : Prop where
  nm : Good r.nm
  s0 : 0 < r.s
  s1 : r.s < P
  o0 : 0 ≤ r.o
  o1 : r.o ≤ 20000
  b0 : 0 ≤ r.b
  b1 : r.b ≤ 20000
theorem RowOk.g {P : Int} {r : Row} (hP : P ≤ 1000) (h : RowOk P r) : RowG P r := ⟨h.nm, h.s0, h.s1, h.o0, by have := h.o1; omega, h.b0, by have := h.b1; omega⟩
abbrev rmI (P x : Int) (r : Row) : Int := 2 * r.s - dst (2 * P) (x + 2 * (r.o + r.b))
structure Top (P : Int) (rs : List Row) (R : Int) : Prop where
  le : ∀ x M : Int, (∀ r ∈ rs, M ≤ rmI P x r) → M ≤ R
  at_ : ∃ x : Int, ∀ r ∈ rs, R ≤ rmI P x r
theorem Top.mono {P : Int} {rs rs' : List Row} {R R' : Int} (h : Top P rs R) (h' : Top P rs' R') (k : ∀ x : Int, ∃ x' : Int, ∀ r' ∈ rs', ∃ r ∈ rs, rmI P x r ≤ rmI P x' r') : R ≤ R' := by
  obtain ⟨x, hx⟩ := h.at_
  obtain ⟨x', hx'⟩ := k x
  refine h'.le x' R fun r' hr' => ?_
  obtain ⟨r, hr, e⟩ := hx' r' hr'
  exact Int.le_trans (hx r hr) e
theorem eqX_ref_tup {rows : List (Kl × DFn × List Tg)} {m : Mu} {n : Nat} {xs : List D} (h : ∀ x ∈ xs, solid x = true ∧ eqX rows m n x x = some true) : eqX rows m (n + 1) (.tup xs) (.tup xs) = some true := by
  rw [eqX_tup]
  have : ∀ ys : List D, (∀ x ∈ ys, solid x = true ∧ eqX rows m n x x = some true) → eqXs (eqI (eqX rows m n)) ys ys = some true := by
    intro ys
    induction ys with
    | nil => intro _; rfl
    | cons y ys ih =>
      intro h
      obtain ⟨h1, h2⟩ := h y (by simp)
      unfold eqXs
      unfold eqI
      rw [if_pos ⟨h1, h1⟩, h2]
      simp only [implies_true, if_true]
      exact ih fun x hx => h x (by simp [hx])
  rw [this xs h]
  simp
theorem eqX_ref_lst {rows : List (Kl × DFn × List Tg)} {m : Mu} {n : Nat} {xs : List D} (h : ∀ x ∈ xs, solid x = true ∧ eqX rows m n x x = some true) : eqX rows m (n + 1) (.lst xs) (.lst xs) = some true := by
  have k := eqX_ref_tup h
  rw [eqX_tup] at k
  rw [eqX_lst, if_pos rfl]
  cases hz : eqXs (eqI (eqX rows m n)) xs xs with
  | none => rw [hz] at k; cases k
  | some b => rw [hz] at k; cases b <;> simp_all
@[simp] theorem tru_rat (c : Cs) (q : Rat) (m : Mu) : dTru m (rat c q) = none := rfl
structure Grew (m m' : Mu) : Prop where
  ex : ∃ t, m' = m ++ t
  cl : Cl m'
theorem Grew.trans {m m1 m2 : Mu} (h : Grew m m1) (k : Grew m1 m2) : Grew m m2 := by
  obtain ⟨t, rfl⟩ := h.ex
  obtain ⟨u, rfl⟩ := k.ex
  exact ⟨⟨t ++ u, by simp⟩, k.cl⟩
theorem Grew.len {m m' : Mu} (h : Grew m m') : m.length ≤ m'.length := by obtain ⟨t, rfl⟩ := h.ex; simp
theorem Grew.get {m m' : Mu} (h : Grew m m') {n : Nat} {o : Mo} (e : m[n]? = some o) : m'[n]? = some o := by
  obtain ⟨t, rfl⟩ := h.ex
  rw [List.getElem?_append_left]
  · exact e
  · exact (List.getElem?_eq_some_iff.mp e).1
theorem Grew.bag {m m' : Mu} (h : Grew m m') (b : BagOk m) : BagOk m' := by
  obtain ⟨o, ho, hb⟩ := b.ex
  exact ⟨⟨o, h.get ho, hb⟩⟩
theorem Grew.one {m : Mu} {o : Mo} (h : Cl (m ++ [o])) : Grew m (m ++ [o]) := ⟨⟨[o], rfl⟩, h⟩
theorem dItR1_of {t : DA} {e : En} {m m1 : Mu} {j : Int} (h : t e m = .ok [.int j] m1) (h3 : -(2 ^ 62) ≤ j) (h4 : j < 2 ^ 62) : dItR1 t e m = .ok (rngD 0 j.toNat) m1 := by
  unfold dItR1
  rw [h]
  exact if_pos ⟨h3, h4⟩
structure Okp (P : Int) (p : Int × Int) : Prop where
  a0 : 0 ≤ p.1
  a1 : p.1 < P
  w0 : 0 ≤ p.2
  w1 : p.2 ≤ P
theorem di_lt {a b P : Int} (hP : 0 < P) : Rat.divInt a P < Rat.divInt b P ↔ a < b := by
  rw [← Rat.not_le, di_le hP]; omega
theorem bag_app {m : Mu} (h : BagOk m) (ex : Mu) : BagOk (m ++ ex) := by
  obtain ⟨o, h1, h2⟩ := h.ex
  refine ⟨o, ?_, h2⟩
  cases m with
  | nil => simp at h1
  | cons x t => simpa using h1
theorem bag_pos {m : Mu} (h : BagOk m) : 0 < m.length := by
  obtain ⟨o, h1, h2⟩ := h.ex
  cases m with
  | nil => simp at h1
  | cons x t => simp
theorem Grew.snoc {m : Mu} {o : Mo} (h : Cl m) (ho : o.below (m.length + 1) = true) : Grew m (m ++ [o]) := .one (h.snoc ho)
theorem cutD_drop (xs : List D) {a : Nat} (ha : a ≤ xs.length) : cutD xs (some (a : Int)) none = xs.drop a := by
  unfold cutD
  rw [HT.sIx_none, HT.sIx_nat, Nat.min_eq_left ha]
  exact List.take_of_length_le (by simp)
theorem insert_at {α : Type} (F : α → D) (zs : List α) (y : α) {j : Nat} (h1 : j ≤ zs.length) (hl : zs.length ≤ 1000) : fInsert (zs.map F) [.int (j : Int), F y] = some ((zs.take j ++ [y] ++ zs.drop j).map F, .non) := by
  have hz : sizeLine = 16777216 := rfl
  have a1 : (0 : Int) ≤ (j : Int) := Int.natCast_nonneg j
  have a2 : (j : Int) < 2 ^ 63 := by
    have : (j : Int) < 1001 := by omega
    exact Int.lt_of_lt_of_le this (by decide)
  have a3 : (zs.map F).length < sizeLine := by rw [List.length_map, hz]; omega
  unfold fInsert
  dsimp only
  rw [if_pos ⟨a1, a2, a3⟩]
  simp [List.map_take, List.map_drop]
theorem mixed_args (c : Cs) {L : Nat} {j : Int} {x1 : Option D} {d : D} {Z : List D} {A1 A2 : Mu} (sl : seqL A1 (.loc L) = some Z) (e1' : F_w_take c [.loc 0, .int ((Z.length : Int) + 1)] A1 = .ok (.int j) A2) : (dCons (dFun (padF 2 [] (F_w_take c)) (dCons (dVar 0) (dCons (dBin gAdd (dFun gLen (dCons (dVar 2) dNil)) (dC (.int 1))) dNil))) (dCons (dVar 3) dNil)) [some (.loc 0), x1, some (.loc L), some d] A1 = .ok [.int j, d] A2 := by
  simp [sl, seqA, e1']
theorem mixed_put (c : Cs) {L : Nat} {j : Int} {x1 : Option D} {d : D} {Z Z2 : List D} {A1 A2 A3 : Mu} (t : DA)  (h1 : A1[L]? = some (.lst Z)) (h2 : A2[L]? = some (.lst Z)) (h3 : A2.set L (.lst Z2) = A3) (ht : t [some (.loc 0), x1, some (.loc L), some d] A1 = .ok [.int j, d] A2) (q : fInsert Z [.int j, d] = some (Z2, .non)) : (dDrop (dLm fInsert (dVar 2) t)) [some (.loc 0), x1, some (.loc L), some d] A1 = .nx [some (.loc 0), x1, some (.loc L), some d] A3 := by
  simp [h1, h2, h3, ht, q]
structure Okq (P : Int) (p : Int × Int) : Prop where
  a0 : 0 ≤ p.1
  a1 : p.1 < P
  w0 : 0 ≤ p.2
  w1 : p.2 < P
theorem Okq.p {P : Int} {p : Int × Int} (h : Okq P p) : Okp P p := ⟨h.a0, h.a1, h.w0, Int.le_of_lt h.w1⟩
def pick {α : Type} (qs : List α) (C : List Nat) : List α := C.filterMap (qs[·]?)
theorem findV_str (x : Str) : ∀ (xs : List Str) (j : Nat), xs.Nodup → xs[j]? = some x → findV (.str x) (xs.map V.str) = some j
  | [], j, _, h => by simp at h
  | y :: ys, 0, hn, h => by
    simp at h; subst h
    simp [findV, eqV]
  | y :: ys, j + 1, hn, h => by
    rw [List.nodup_cons] at hn
    have h' : ys[j]? = some x := by simpa using h
    have hne : ¬ y = x := fun e => hn.1 (by rw [e]; exact List.mem_of_getElem? h')
    simp [findV, eqV, hne, findV_str x ys j hn.2 h']
def AscX (ps : List (Rat × Rat)) : Prop := ps.Pairwise fun a b => a.1 < b.1
def strt3 (p q r : Rat × Rat) : Prop := (q.2 - p.2) * (r.1 - q.1) = (r.2 - q.2) * (q.1 - p.1)
instance instStrt3 (p q r : Rat × Rat) : Decidable (strt3 p q r) := inferInstanceAs (Decidable (_ = _))
theorem AscX.tail {p : Rat × Rat} {l : List (Rat × Rat)} (h : AscX (p :: l)) : AscX l := (List.pairwise_cons.mp h).2
theorem AscX.lt {p q : Rat × Rat} {l : List (Rat × Rat)} (h : AscX (p :: q :: l)) : p.1 < q.1 := (List.pairwise_cons.mp h).1 q (by simp)
theorem AscX.sub {ps qs : List (Rat × Rat)} (h : AscX ps) (s : qs.Sublist ps) : AscX qs := List.Pairwise.sublist s h
@[simp ↓] theorem gAddS_rat (c : Cs) (q : Rat) (y : D) (m : Mu) : gAddS (rat c q) y m = .stuck := rfl
theorem gIx_at {α : Type} (F : α → D) {xs : List α} {k : Nat} {x : α} (h : xs[k]? = some x) (m : Mu) : gIx (.lst (xs.map F)) (.int (k : Int)) m = .ok (F x) m := by
  obtain ⟨h1, h2⟩ := List.getElem?_eq_some_iff.mp h
  rw [gIx_lst, show atI (xs.map F) ((k : Nat) : Int) = some (F x) from by
    have q : ixN xs.length ((k : Nat) : Int) = some k := by unfold ixN; simp; omega
    simp [atI, q, h2, h1]]
theorem bgs_app {m t m2 : Mu} (hb : BagOk m) (g : Bgs (m ++ t) m2) : ∃ b, m2 = b ++ t ∧ Bgs m b := by
  obtain ⟨o, rfl, h⟩ := g.ex
  obtain ⟨o', h1, _⟩ := hb.ex
  have hl : 0 < m.length := (List.getElem?_eq_some_iff.mp h1).1
  exact ⟨m.set 0 o, List.set_append_left _ _ hl, ⟨o, rfl, h⟩⟩
theorem take_lit (c : Cs) {m t : Mu} (hb : BagOk m) (n : Int) (hn : 0 < n) (hl : n < 2 ^ 200) : ∃ v m', F_w_take c [.loc 0, .int n] (m ++ t) = .ok (.int v) (m' ++ t) ∧ 0 ≤ v ∧ v < n ∧ Bgs m m' := by
  obtain ⟨v, m1, e, h0, h1, g⟩ := take_ok c (bag_app hb t) hn hl
  obtain ⟨b, rfl, g'⟩ := bgs_app hb g
  exact ⟨v, b, e, h0, h1, g'⟩
theorem NXe {a b : DS} {e e1 : En} {m m1 m2 : Mu} {P : En → Prop} (h : a e m = .nx e1 m1) (k : ∃ e2, b e1 m1 = .nx e2 m2 ∧ P e2) : ∃ e2, dSeq a b e m = .nx e2 m2 ∧ P e2 := by
  obtain ⟨e2, k1, k2⟩ := k
  exact ⟨e2, (dSeq_nx h).trans k1, k2⟩
structure Fo where
  h : Rat
  s : Rat
  r : Rat
  p : Rat
def Fo.v (f : Fo) (x : Rat) : Rat := f.h + f.s * aw (f.r * x + f.p)
def AffOn (g : Rat → Rat) (a b : Rat) : Prop := ∃ α β : Rat, ∀ x, a ≤ x → x ≤ b → g x = α + β * x
theorem AffOn.sub {g : Rat → Rat} {a b u v : Rat} (h : AffOn g a b) (h0 : a ≤ u) (h1 : v ≤ b) : AffOn g u v := by
  obtain ⟨α, β, h⟩ := h
  exact ⟨α, β, fun x x0 x1 => h x (by grind) (by grind)⟩
end W

set_option maxHeartbeats 8000000
namespace W
open PySem PySem.Spec L2 DL
def oD (c : Cs) (P : Int) : Option Int → D
  | none => .non
  | some k => rat c (Rat.divInt k P)
abbrev Tb := Nat → Nat → Option Int
def updT (T : Tb) (i j : Nat) (v : Int) : Tb := fun a b => if a = i ∧ b = j then some v else T a b
def rowT (c : Cs) (P : Int) (n : Nat) (T : Tb) (i : Nat) : List D := (List.range n).map fun j => oD c P (T i j)
def rowsT (c : Cs) (P : Int) (n : Nat) (T : Tb) : List Mo := (List.range n).map fun i => Mo.lst (rowT c P n T i)
def locsT (k n : Nat) : D := .lst ((List.range n).map fun i => .loc (k + i))
theorem oD_below (c : Cs) (P : Int) (n : Nat) (v : Option Int) : below n (oD c P v) = true := by cases v <;> rfl
theorem belows_F {α : Type} {F : α → D} {n : Nat} (h : ∀ a, below n (F a) = true) : ∀ xs : List α, belows n (xs.map F) = true
  | [] => rfl
  | x :: xs => by
    have h1 := h x
    have h2 := belows_F h xs
    simp only [List.map_cons, belows, h1, h2, Bool.and_self]
theorem rowT_below (c : Cs) (P : Int) (n : Nat) (T : Tb) (i k : Nat) : belows k (rowT c P n T i) = true := belows_F (fun _ => oD_below c P k _) _
theorem cl_rows {m : Mu} (hm : Cl m) (c : Cs) (P : Int) (n : Nat) (T : Tb) : Cl (m ++ rowsT c P n T) := fun o ho => by
  rcases List.mem_append.mp ho with h | h
  · exact Mo.below_mono (by rw [List.length_append]; omega) (hm o h)
  · obtain ⟨i, _, rfl⟩ := List.mem_map.mp h
    exact rowT_below c P n T i _
theorem rows_at (c : Cs) (P : Int) {n : Nat} (T : Tb) (m : Mu) {i : Nat} (hi : i < n) : (m ++ rowsT c P n T)[m.length + i]? = some (.lst (rowT c P n T i)) := by
  rw [List.getElem?_append_right (Nat.le_add_right _ _), Nat.add_sub_cancel_left]
  unfold rowsT
  rw [List.getElem?_map, List.getElem?_range hi]; rfl
theorem row_at (c : Cs) (P : Int) {n : Nat} (T : Tb) (i : Nat) {j : Nat} (hj : j < n) : (rowT c P n T i)[j]? = some (oD c P (T i j)) := by
  unfold rowT
  rw [List.getElem?_map, List.getElem?_range hj]; rfl
theorem row_len (c : Cs) (P : Int) (n : Nat) (T : Tb) (i : Nat) : (rowT c P n T i).length = n := by simp [rowT]
theorem rows_set (c : Cs) (P : Int) {n : Nat} (T : Tb) (m : Mu) {i j : Nat} (hi : i < n) (hj : j < n) (v : Int) : (m ++ rowsT c P n T).set (m.length + i) (.lst ((rowT c P n T i).set j (rat c (Rat.divInt v P)))) = m ++ rowsT c P n (updT T i j v) := by
  rw [List.set_append_right _ _ (Nat.le_add_right _ _), Nat.add_sub_cancel_left]
  congr 1
  apply List.ext_getElem?
  intro a
  by_cases ha : a < n
  · have ra : ∀ T, (rowsT c P n T)[a]? = some (.lst (rowT c P n T a)) := fun T => by
      unfold rowsT; rw [List.getElem?_map, List.getElem?_range ha]; rfl
    rw [ra]
    by_cases e : i = a
    · subst e
      rw [List.getElem?_set_self (by simp [rowsT, ha])]
      congr 2
      apply List.ext_getElem?
      intro b
      by_cases hb : b < n
      · rw [row_at c P _ _ hb]
        by_cases e : j = b
        · subst e
          rw [List.getElem?_set_self (by rw [row_len]; exact hb)]
          unfold updT
          rw [if_pos ⟨rfl, rfl⟩]; rfl
        · rw [List.getElem?_set_ne e, row_at c P _ _ hb]
          unfold updT
          rw [if_neg (fun h => e h.2.symm)]
      · rw [List.getElem?_eq_none (by rw [List.length_set, row_len]; omega), List.getElem?_eq_none (by rw [row_len]; omega)]
    · rw [List.getElem?_set_ne e, ra]
      congr 2
      unfold rowT updT
      apply List.map_congr_left
      intro b _
      rw [if_neg (fun h => e h.1.symm)]
  · rw [List.getElem?_eq_none (by simp [rowsT]; omega), List.getElem?_eq_none (by simp [rowsT]; omega)]
theorem ixN_nat {n j : Nat} (h : j < n) : ixN n ((j : Nat) : Int) = some j := by unfold ixN; simp; omega
theorem gIx_loc {M : Mu} {k j : Nat} {ds : List D} {d : D} (h : M[k]? = some (.lst ds)) (hj : ds[j]? = some d) : gIx (.loc k) (.int ((j : Nat) : Int)) M = .ok d M := by
  have hl := (List.getElem?_eq_some_iff.mp hj).1
  have e1 : seqA M (.loc k) = some ds := by simp [seqA_loc, h]
  have e2 : atI ds ((j : Nat) : Int) = some d := by unfold atI; rw [ixN_nat hl]; exact hj
  unfold gIx
  simp only [e1, e2]
theorem gIx_tab {k n i : Nat} (h : i < n) (M : Mu) : gIx (locsT k n) (.int ((i : Nat) : Int)) M = .ok (.loc (k + i)) M := by
  unfold locsT
  exact gIx_at (fun i : Nat => D.loc (k + i)) (List.getElem?_range h) M
structure BdT (s n : Nat) (T : Tb) : Prop where
  b : ∀ i j v, i < n → j < n → T i j = some v → Bi s v
theorem BdT.mono {s t n : Nat} {T : Tb} (h : BdT s n T) (k : s ≤ t) : BdT t n T := ⟨fun i j v hi hj e => (h.b i j v hi hj e).mono k⟩
theorem BdT.upd {s n : Nat} {T : Tb} (h : BdT s n T) {i j : Nat} {v : Int} (hv : Bi s v) : BdT s n (updT T i j v) := ⟨fun a b w ha hb e => by
  unfold updT at e
  split at e
  · cases e; exact hv
  · exact h.b a b w ha hb e⟩
def rlx (T : Tb) (k i j : Nat) : Tb := match T i k, T k j with
  | some a, some b => (match T i j with
    | none => updT T i j (a + b)
    | some t => if a + b < t then updT T i j (a + b) else T)
  | _, _ => T
theorem BdT.rlx {s n : Nat} {T : Tb} (h : BdT s n T) {i j k : Nat} (hi : i < n) (hj : j < n) (hk : k < n) : BdT (s + 1) n (rlx T k i j) := by
  unfold W.rlx
  have h' := h.mono (Nat.le_succ s)
  split
  · rename_i a b e1 e2
    have := (h.b i k a hi hk e1).add (h.b k j b hk hj e2)
    split
    · exact h'.upd this
    · split
      · exact h'.upd this
      · exact h'
  · exact h'
theorem body2_ok (c : Cs) {P : Int} (hP : 0 < P) {s n : Nat} {T : Tb} {m : Mu} (hm : Cl m) (bd : BdT s n T) (hs : s < 4000) (hP2 : Bi s P) {i j k : Nat} (hi : i < n) (hj : j < n) (hk : k < n) (N : D) (x0 x1 x2 x7 x9 x10 x11 : Option D) :
    ∃ y9 y10, B_closed_bounds_2 c [x0, x1, x2, some N, some (locsT m.length n), some (.int ((j : Nat) : Int)), some (.int ((i : Nat) : Int)), x7, some (.int ((k : Nat) : Int)), x9, x10, x11] (m ++ rowsT c P n T) = .nx [x0, x1, x2, some N, some (locsT m.length n), some (.int ((j : Nat) : Int)), some (.int ((i : Nat) : Int)), x7, some (.int ((k : Nat) : Int)), y9, y10, x11] (m ++ rowsT c P n (rlx T k i j)) := by
  have nnN : ∀ M, gNotN .non .non M = .ok (.bl false) M := fun _ => rfl
  have niN : ∀ M, gIsN .non .non M = .ok (.bl true) M := fun _ => rfl
  have hz : sizeLine = 16777216 := rfl
  have hM := cl_rows hm c P n T
  have g1 := gIx_tab (k := m.length) hi (m ++ rowsT c P n T)
  have g2 := gIx_tab (k := m.length) hk (m ++ rowsT c P n T)
  have r1 := rows_at c P T m hi
  have g3 := gIx_loc r1 (row_at c P T i hk)
  have g4 := gIx_loc (rows_at c P T m hk) (row_at c P T k hj)
  have g5 := gIx_loc r1 (row_at c P T i hj)
  have ix : ixN (rowT c P n T i).length ((j : Nat) : Int) = some j := ixN_nat (by rw [row_len]; exact hj)
  have st := rows_set c P T m hi hj
  have sz : ∀ v, Bi s v → Sz s (Rat.divInt v P) := fun v hv => Sz.di hv hP2 (by omega)
  obtain ⟨TAB, hTAB⟩ : ∃ x, locsT m.length n = x := ⟨_, rfl⟩
  obtain ⟨R, hR⟩ : ∃ x, rowT c P n T i = x := ⟨_, rfl⟩
  obtain ⟨M, hMM⟩ : ∃ x, m ++ rowsT c P n T = x := ⟨_, rfl⟩
  obtain ⟨L1, hL1⟩ : ∃ x, m.length + i = x := ⟨_, rfl⟩
  obtain ⟨L2, hL2⟩ : ∃ x, m.length + k = x := ⟨_, rfl⟩
  obtain ⟨I, hI⟩ : ∃ x : Int, ((i : Nat) : Int) = x := ⟨_, rfl⟩
  obtain ⟨J, hJ⟩ : ∃ x : Int, ((j : Nat) : Int) = x := ⟨_, rfl⟩
  obtain ⟨KK, hKK⟩ : ∃ x : Int, ((k : Nat) : Int) = x := ⟨_, rfl⟩
  rw [hTAB, hMM, hL1, hI] at g1
  rw [hTAB, hMM, hL2, hKK] at g2
  rw [hL1, hMM, hKK] at g3
  rw [hL2, hMM, hJ] at g4
  rw [hL1, hMM, hJ] at g5
  rw [hR, hJ] at ix
  rw [hMM, hL1, hR] at st r1
  rw [hMM] at hM
  rw [hTAB, hMM, hI, hJ, hKK]
  unfold rlx
  rw [B_closed_bounds_2_ap]
  cases e1 : T i k with
  | none =>
    rw [e1] at g3
    have g3 : gIx (.loc L1) (.int KK) M = .ok .non M := g3
    refine ⟨some .non, some (oD c P (T k j)), ?_⟩
    dsimp only
    rw [hMM]
    simp [g1, g2, g3, g4]
  | some a =>
    cases e2 : T k j with
    | none =>
      rw [e1] at g3
      rw [e2] at g4
      have g4 : gIx (.loc L2) (.int J) M = .ok .non M := g4
      have g3 : gIx (.loc L1) (.int KK) M = .ok (rat c (Rat.divInt a P)) M := g3
      have n1 : gNotN (rat c (Rat.divInt a P)) .non M = .ok (.bl true) M := rfl
      refine ⟨some (rat c (Rat.divInt a P)), some .non, ?_⟩
      dsimp only
      rw [hMM]
      obtain ⟨A, hA⟩ : ∃ x, rat c (Rat.divInt a P) = x := ⟨_, rfl⟩
      rw [hA] at g3 n1 ⊢
      simp [-gNotN_ap, -gAddS_ap, -gIsN_ap, nnN, niN, g1, g2, g3, g4, n1]
    | some b =>
      have ba := bd.b i k a hi hk e1
      have bb := bd.b k j b hk hj e2
      rw [e1] at g3
      rw [e2] at g4
      have g3 : gIx (.loc L1) (.int KK) M = .ok (rat c (Rat.divInt a P)) M := g3
      have g4 : gIx (.loc L2) (.int J) M = .ok (rat c (Rat.divInt b P)) M := g4
      have n1 : gNotN (rat c (Rat.divInt a P)) .non M = .ok (.bl true) M := rfl
      have n2 : gNotN (rat c (Rat.divInt b P)) .non M = .ok (.bl true) M := rfl
      have ad := add_ok c (sz a ba) (sz b bb) hM (by omega)
      rw [di_add] at ad
      have sab : Sz (s + 1) (Rat.divInt (a + b) P) := Sz.di (ba.add bb) (hP2.mono (by omega)) (by omega)
      have st := st (a + b)
      have iA := insOf_rat M c (Rat.divInt a P)
      have iB := insOf_rat M c (Rat.divInt b P)
      have iS := insOf_rat M c (Rat.divInt (a + b) P)
      have gs : gAddS (rat c (Rat.divInt a P)) (rat c (Rat.divInt b P)) M = .stuck := rfl
      refine ⟨some (rat c (Rat.divInt a P)), some (rat c (Rat.divInt b P)), ?_⟩
      dsimp only
      cases e3 : T i j with
      | none =>
        rw [e3] at g5
        have g5 : gIx (.loc L1) (.int J) M = .ok .non M := g5
        dsimp only
        rw [← st]
        obtain ⟨A, hA⟩ : ∃ x, rat c (Rat.divInt a P) = x := ⟨_, rfl⟩
        obtain ⟨B, hB⟩ : ∃ x, rat c (Rat.divInt b P) = x := ⟨_, rfl⟩
        obtain ⟨S, hS⟩ : ∃ x, rat c (Rat.divInt (a + b) P) = x := ⟨_, rfl⟩
        rw [hA] at g3 n1 ad iA gs ⊢
        rw [hB] at g4 n2 ad iB gs ⊢
        rw [hS] at ad iS ⊢
        simp [-gNotN_ap, -gAddS_ap, -gIsN_ap, nnN, niN, g1, g2, g3, g4, n1, n2, g5, orD, gs, iA, iB, ad, r1, ix]
      | some t =>
        have bt := bd.b i j t hi hj e3
        rw [e3] at g5
        have g5 : gIx (.loc L1) (.int J) M = .ok (rat c (Rat.divInt t P)) M := g5
        have n3 : gIsN (rat c (Rat.divInt t P)) .non M = .ok (.bl false) M := rfl
        have bl := below_ok c sab (sz t bt) (m := M) (by omega)
        have dl : decide (Rat.divInt (a + b) P < Rat.divInt t P) = decide (a + b < t) := decide_eq_decide.mpr (di_lt hP)
        rw [dl] at bl
        dsimp only
        by_cases hlt : a + b < t
        · rw [if_pos hlt, ← st]
          rw [decide_eq_true hlt] at bl
          obtain ⟨A, hA⟩ : ∃ x, rat c (Rat.divInt a P) = x := ⟨_, rfl⟩
          obtain ⟨B, hB⟩ : ∃ x, rat c (Rat.divInt b P) = x := ⟨_, rfl⟩
          obtain ⟨S, hS⟩ : ∃ x, rat c (Rat.divInt (a + b) P) = x := ⟨_, rfl⟩
          obtain ⟨U, hU⟩ : ∃ x, rat c (Rat.divInt t P) = x := ⟨_, rfl⟩
          rw [hA] at g3 n1 ad iA gs ⊢
          rw [hB] at g4 n2 ad iB gs ⊢
          rw [hS] at ad iS bl ⊢
          rw [hU] at g5 n3 bl
          simp [-gNotN_ap, -gAddS_ap, -gIsN_ap, nnN, niN, g1, g2, g3, g4, n1, n2, n3, g5, orD, gs, iA, iB, ad, r1, ix, dMeth, methAt, iS, bl]
        · rw [if_neg hlt, hMM]
          rw [decide_eq_false hlt] at bl
          obtain ⟨A, hA⟩ : ∃ x, rat c (Rat.divInt a P) = x := ⟨_, rfl⟩
          obtain ⟨B, hB⟩ : ∃ x, rat c (Rat.divInt b P) = x := ⟨_, rfl⟩
          obtain ⟨S, hS⟩ : ∃ x, rat c (Rat.divInt (a + b) P) = x := ⟨_, rfl⟩
          obtain ⟨U, hU⟩ : ∃ x, rat c (Rat.divInt t P) = x := ⟨_, rfl⟩
          rw [hA] at g3 n1 ad iA gs ⊢
          rw [hB] at g4 n2 ad iB gs ⊢
          rw [hS] at ad iS bl
          rw [hU] at g5 n3 bl
          simp [-gNotN_ap, -gAddS_ap, -gIsN_ap, nnN, niN, g1, g2, g3, g4, n1, n2, n3, g5, orD, gs, iA, iB, ad, r1, ix, dMeth, methAt, iS, bl]
end W
set_option maxHeartbeats 8000000
namespace W
open PySem PySem.Spec L2 DL
theorem dFor_isT {t : DA} {g : DG} {b : DS} {e : En} {m m1 : Mu} {ds : List D} {r : RS} (h : t e m = .ok ds m1) (k : dLoop g b ds e m1 = r) : dFor t g b e m = r := by
  unfold dFor; rw [h]; exact k
theorem rng_split {n : Nat} {pre post : List Nat} {a : Nat} (h : List.range n = pre ++ a :: post) : a < n := by
  have : a ∈ List.range n := by rw [h]; simp
  exact List.mem_range.mp this
theorem rng_pre {n : Nat} {pre post : List Nat} {a : Nat} (h : List.range n = pre ++ a :: post) : pre.length < n := by
  have := congrArg List.length h
  simp at this; omega
def rlx1 (n : Nat) (T : Tb) (k i : Nat) : Tb := (List.range n).foldl (fun T j => rlx T k i j) T
def rlx2 (n : Nat) (T : Tb) (k : Nat) : Tb := (List.range n).foldl (fun T i => rlx1 n T k i) T
def rlx3 (n : Nat) (T : Tb) : Tb := (List.range n).foldl (fun T k => rlx2 n T k) T
section
variable {P : Int} {s n : Nat} {T : Tb} {m : Mu}
theorem it_rng (N : Int) (h1 : 0 ≤ N) (h2 : N ≤ 1000) (x0 x1 x2 x4 x5 x6 x7 x8 x9 x10 x11 : Option D) (M : Mu) : dItR1 (dCons (dVar 3) dNil) [x0, x1, x2, some (.int N), x4, x5, x6, x7, x8, x9, x10, x11] M = .ok (rngD 0 N.toNat) M :=
  dItR1_of (by simp) (by omega) (by omega)
theorem loop1_ok (c : Cs) (hP : 0 < P) (hm : Cl m) (bd : BdT s n T) (hs : s + n < 4000) (hP2 : Bi s P) (hn : n ≤ 100) {i k : Nat} (hi : i < n) (hk : k < n) {N : Int} (hN : N = n) (x0 x1 x2 x5 x7 x9 x10 x11 : Option D) :
    ∃ y5 y9 y10, B_closed_bounds_3 c [x0, x1, x2, some (.int N), some (locsT m.length n), x5, some (.int ((i : Nat) : Int)), x7, some (.int ((k : Nat) : Int)), x9, x10, x11] (m ++ rowsT c P n T) = .nx [x0, x1, x2, some (.int N), some (locsT m.length n), y5, some (.int ((i : Nat) : Int)), x7, some (.int ((k : Nat) : Int)), y9, y10, x11] (m ++ rowsT c P n (rlx1 n T k i)) ∧ BdT (s + n) n (rlx1 n T k i) := by
  obtain ⟨e2, m2, h1, ⟨y5, y9, y10, rfl⟩, rfl, h3⟩ := loop_rel (g := dName 5) (b := B_closed_bounds_2 c) (F := fun j : Nat => D.int j)
    (fun pre e M => (∃ y5 y9 y10, e = [x0, x1, x2, some (.int N), some (locsT m.length n), y5, some (.int ((i : Nat) : Int)), x7, some (.int ((k : Nat) : Int)), y9, y10, x11]) ∧ M = m ++ rowsT c P n (pre.foldl (fun T j => rlx T k i j) T) ∧ BdT (s + pre.length) n (pre.foldl (fun T j => rlx T k i j) T))
    (List.range n) [] [x0, x1, x2, some (.int N), some (locsT m.length n), x5, some (.int ((i : Nat) : Int)), x7, some (.int ((k : Nat) : Int)), x9, x10, x11] (m ++ rowsT c P n T) (fun pre a post hp e M hI => by
      obtain ⟨⟨y5, y9, y10, rfl⟩, rfl, hb⟩ := hI
      rw [List.nil_append] at hp
      have ha := rng_split hp
      have hl := rng_pre hp
      obtain ⟨z9, z10, hst⟩ := body2_ok c hP hm hb (by omega) (hP2.mono (by omega)) hi ha hk (.int N) x0 x1 x2 x7 y9 y10 x11
      refine ⟨_, _, _, rfl, hst, ⟨_, _, _, rfl⟩, ?_, ?_⟩
      · rw [List.foldl_append]; rfl
      · rw [List.foldl_append, List.length_append]
        exact hb.rlx hi ha hk)
    ⟨⟨_, _, _, rfl⟩, rfl, bd⟩
  refine ⟨y5, y9, y10, ?_, ?_⟩
  · have e : rngD 0 N.toNat = (List.range n).map fun j : Nat => D.int j := by rw [hN, Int.toNat_natCast, rngD_map]
    unfold B_closed_bounds_3
    refine dFor_isT (it_rng N (by omega) (by omega) _ _ _ _ _ _ _ _ _ _ _ _) ?_
    rw [e]
    exact h1
  · have := h3; simp at this; exact this
theorem loop2_ok (c : Cs) (hP : 0 < P) (hm : Cl m) (bd : BdT s n T) (hs : s + n * n < 4000) (hP2 : Bi s P) (hn : n ≤ 13) {k : Nat} (hk : k < n) {N : Int} (hN : N = n) (x0 x1 x2 x5 x6 x7 x9 x10 x11 : Option D) :
    ∃ y5 y6 y9 y10, B_closed_bounds_4 c [x0, x1, x2, some (.int N), some (locsT m.length n), x5, x6, x7, some (.int ((k : Nat) : Int)), x9, x10, x11] (m ++ rowsT c P n T) = .nx [x0, x1, x2, some (.int N), some (locsT m.length n), y5, y6, x7, some (.int ((k : Nat) : Int)), y9, y10, x11] (m ++ rowsT c P n (rlx2 n T k)) ∧ BdT (s + n * n) n (rlx2 n T k) := by
  obtain ⟨e2, m2, h1, ⟨y5, y6, y9, y10, rfl⟩, rfl, h3⟩ := loop_rel (g := dName 6) (b := B_closed_bounds_3 c) (F := fun j : Nat => D.int j)
    (fun pre e M => (∃ y5 y6 y9 y10, e = [x0, x1, x2, some (.int N), some (locsT m.length n), y5, y6, x7, some (.int ((k : Nat) : Int)), y9, y10, x11]) ∧ M = m ++ rowsT c P n (pre.foldl (fun T i => rlx1 n T k i) T) ∧ BdT (s + n * pre.length) n (pre.foldl (fun T i => rlx1 n T k i) T))
    (List.range n) [] [x0, x1, x2, some (.int N), some (locsT m.length n), x5, x6, x7, some (.int ((k : Nat) : Int)), x9, x10, x11] (m ++ rowsT c P n T) (fun pre a post hp e M hI => by
      obtain ⟨⟨y5, y6, y9, y10, rfl⟩, rfl, hb⟩ := hI
      rw [List.nil_append] at hp
      have ha := rng_split hp
      have hl := rng_pre hp
      have h1 : n * pre.length + n ≤ n * n := by
        rw [← Nat.mul_succ]; exact Nat.mul_le_mul_left n hl
      obtain ⟨z5, z9, z10, hst, hb2⟩ := loop1_ok c hP hm hb (by omega) (hP2.mono (by omega)) (by omega) (i := a) ha hk hN x0 x1 x2 y5 x7 y9 y10 x11
      refine ⟨_, _, _, rfl, hst, ⟨_, _, _, _, rfl⟩, ?_, ?_⟩
      · rw [List.foldl_append]; rfl
      · rw [List.foldl_append, List.length_append]
        exact hb2.mono (by show _ ≤ s + n * (pre.length + 1); rw [Nat.mul_succ]; omega))
    ⟨⟨_, _, _, _, rfl⟩, rfl, bd⟩
  refine ⟨y5, y6, y9, y10, ?_, ?_⟩
  · have e : rngD 0 N.toNat = (List.range n).map fun j : Nat => D.int j := by rw [hN, Int.toNat_natCast, rngD_map]
    unfold B_closed_bounds_4
    refine dFor_isT (it_rng N (by omega) (by omega) _ _ _ _ _ _ _ _ _ _ _ _) ?_
    rw [e]
    exact h1
  · have := h3; simp at this; exact this
theorem loop3_ok (c : Cs) (hP : 0 < P) (hm : Cl m) (bd : BdT s n T) (hs : s + n * n * n < 4000) (hP2 : Bi s P) (hn : n ≤ 13) {N : Int} (hN : N = n) (x0 x1 x2 x5 x6 x7 x8 x9 x10 x11 : Option D) :
    ∃ y5 y6 y8 y9 y10, dFor (dItR1 (dCons (dVar 3) dNil)) (dName 8) (B_closed_bounds_4 c) [x0, x1, x2, some (.int N), some (locsT m.length n), x5, x6, x7, x8, x9, x10, x11] (m ++ rowsT c P n T) = .nx [x0, x1, x2, some (.int N), some (locsT m.length n), y5, y6, x7, y8, y9, y10, x11] (m ++ rowsT c P n (rlx3 n T)) ∧ BdT (s + n * n * n) n (rlx3 n T) := by
  obtain ⟨e2, m2, h1, ⟨y5, y6, y8, y9, y10, rfl⟩, rfl, h3⟩ := loop_rel (g := dName 8) (b := B_closed_bounds_4 c) (F := fun j : Nat => D.int j)
    (fun pre e M => (∃ y5 y6 y8 y9 y10, e = [x0, x1, x2, some (.int N), some (locsT m.length n), y5, y6, x7, y8, y9, y10, x11]) ∧ M = m ++ rowsT c P n (pre.foldl (fun T k => rlx2 n T k) T) ∧ BdT (s + n * n * pre.length) n (pre.foldl (fun T k => rlx2 n T k) T))
    (List.range n) [] [x0, x1, x2, some (.int N), some (locsT m.length n), x5, x6, x7, x8, x9, x10, x11] (m ++ rowsT c P n T) (fun pre a post hp e M hI => by
      obtain ⟨⟨y5, y6, y8, y9, y10, rfl⟩, rfl, hb⟩ := hI
      rw [List.nil_append] at hp
      have ha := rng_split hp
      have hl := rng_pre hp
      have h1 : n * n * pre.length + n * n ≤ n * n * n := by
        rw [← Nat.mul_succ]; exact Nat.mul_le_mul_left (n * n) hl
      obtain ⟨z5, z6, z9, z10, hst, hb2⟩ := loop2_ok c hP hm hb (by omega) (hP2.mono (by omega)) hn ha hN x0 x1 x2 y5 y6 x7 y9 y10 x11
      refine ⟨_, _, _, rfl, hst, ⟨_, _, _, _, _, rfl⟩, ?_, ?_⟩
      · rw [List.foldl_append]; rfl
      · rw [List.foldl_append, List.length_append]
        exact hb2.mono (by show _ ≤ s + n * n * (pre.length + 1); rw [Nat.mul_succ]; omega))
    ⟨⟨_, _, _, _, _, rfl⟩, rfl, bd⟩
  refine ⟨y5, y6, y8, y9, y10, ?_, ?_⟩
  · have e : rngD 0 N.toNat = (List.range n).map fun j : Nat => D.int j := by rw [hN, Int.toNat_natCast, rngD_map]
    refine dFor_isT (it_rng N (by omega) (by omega) _ _ _ _ _ _ _ _ _ _ _ _) ?_
    rw [e]
    exact h1
  · have := h3; simp at this; exact this
abbrev Bnd := Nat × Nat × Int
def rlxB (T : Tb) (b : Bnd) : Tb := match T b.1 b.2.1 with
  | none => updT T b.1 b.2.1 b.2.2
  | some t => if b.2.2 < t then updT T b.1 b.2.1 b.2.2 else T
def bndD (c : Cs) (P : Int) (b : Bnd) : D := .tup [.int b.1, .int b.2.1, rat c (Rat.divInt b.2.2 P)]
theorem BdT.rlxB {s n : Nat} {T : Tb} (h : BdT s n T) {b : Bnd} (hb : Bi s b.2.2) : BdT s n (rlxB T b) := by
  unfold W.rlxB
  split
  · exact h.upd hb
  · split
    · exact h.upd hb
    · exact h
theorem bodyB_ok (c : Cs) (hP : 0 < P) (bd : BdT s n T) (hs : s < 4000) (hP2 : Bi s P) {b : Bnd} (h1 : b.1 < n) (h2 : b.2.1 < n) (h3 : Bi s b.2.2) (N : D) (x0 x1 x2 x8 x9 x10 x11 : Option D) :
    B_closed_bounds_1 c [x0, x1, x2, some N, some (locsT m.length n), some (.int b.2.1), some (.int b.1), some (rat c (Rat.divInt b.2.2 P)), x8, x9, x10, x11] (m ++ rowsT c P n T) = .nx [x0, x1, x2, some N, some (locsT m.length n), some (.int b.2.1), some (.int b.1), some (rat c (Rat.divInt b.2.2 P)), x8, x9, x10, x11] (m ++ rowsT c P n (rlxB T b)) := by
  have niN : ∀ M, gIsN .non .non M = .ok (.bl true) M := fun _ => rfl
  have hz : sizeLine = 16777216 := rfl
  obtain ⟨i, j, v⟩ := b
  dsimp only at h1 h2 h3 ⊢
  have g1 := gIx_tab (k := m.length) h1 (m ++ rowsT c P n T)
  have r1 := rows_at c P T m h1
  have g5 := gIx_loc r1 (row_at c P T i h2)
  have ix : ixN (rowT c P n T i).length ((j : Nat) : Int) = some j := ixN_nat (by rw [row_len]; exact h2)
  have st := rows_set c P T m h1 h2 v
  have sz : ∀ v, Bi s v → Sz s (Rat.divInt v P) := fun v hv => Sz.di hv hP2 (by omega)
  obtain ⟨TAB, hTAB⟩ : ∃ x, locsT m.length n = x := ⟨_, rfl⟩
  obtain ⟨R, hR⟩ : ∃ x, rowT c P n T i = x := ⟨_, rfl⟩
  obtain ⟨M, hMM⟩ : ∃ x, m ++ rowsT c P n T = x := ⟨_, rfl⟩
  obtain ⟨L1, hL1⟩ : ∃ x, m.length + i = x := ⟨_, rfl⟩
  obtain ⟨I, hI⟩ : ∃ x : Int, ((i : Nat) : Int) = x := ⟨_, rfl⟩
  obtain ⟨J, hJ⟩ : ∃ x : Int, ((j : Nat) : Int) = x := ⟨_, rfl⟩
  rw [hTAB, hMM, hL1, hI] at g1
  rw [hL1, hMM, hJ] at g5
  rw [hR, hJ] at ix
  rw [hMM, hL1, hR] at st r1
  rw [hTAB, hMM, hI, hJ]
  have iV := insOf_rat M c (Rat.divInt v P)
  unfold rlxB
  dsimp only
  rw [B_closed_bounds_1_ap]
  cases e3 : T i j with
  | none =>
    rw [e3] at g5
    have g5 : gIx (.loc L1) (.int J) M = .ok .non M := g5
    dsimp only
    rw [← st]
    obtain ⟨B, hB⟩ : ∃ x, rat c (Rat.divInt v P) = x := ⟨_, rfl⟩
    rw [hB] at iV ⊢
    simp [-gIsN_ap, niN, g1, g5, r1, ix]
  | some t =>
    have bt := bd.b i j t h1 h2 e3
    rw [e3] at g5
    have g5 : gIx (.loc L1) (.int J) M = .ok (rat c (Rat.divInt t P)) M := g5
    have n3 : gIsN (rat c (Rat.divInt t P)) .non M = .ok (.bl false) M := rfl
    have bl := below_ok c (sz v h3) (sz t bt) (m := M) (by omega)
    have dl : decide (Rat.divInt v P < Rat.divInt t P) = decide (v < t) := decide_eq_decide.mpr (di_lt hP)
    rw [dl] at bl
    dsimp only
    by_cases hlt : v < t
    · rw [if_pos hlt, ← st]
      rw [decide_eq_true hlt] at bl
      obtain ⟨B, hB⟩ : ∃ x, rat c (Rat.divInt v P) = x := ⟨_, rfl⟩
      obtain ⟨U, hU⟩ : ∃ x, rat c (Rat.divInt t P) = x := ⟨_, rfl⟩
      rw [hB] at iV bl ⊢
      rw [hU] at g5 n3 bl
      simp [-gIsN_ap, g1, n3, g5, r1, ix, dMeth, methAt, iV, bl]
    · rw [if_neg hlt, hMM]
      rw [decide_eq_false hlt] at bl
      obtain ⟨B, hB⟩ : ∃ x, rat c (Rat.divInt v P) = x := ⟨_, rfl⟩
      obtain ⟨U, hU⟩ : ∃ x, rat c (Rat.divInt t P) = x := ⟨_, rfl⟩
      rw [hB] at iV bl ⊢
      rw [hU] at g5 n3 bl
      simp [-gIsN_ap, g1, n3, g5, r1, ix, dMeth, methAt, iV, bl]
theorem loopB_ok (c : Cs) (hP : 0 < P) (bd : BdT s n T) (hs : s < 4000) (hP2 : Bi s P) {bs : List Bnd} (hb : ∀ b ∈ bs, b.1 < n ∧ b.2.1 < n ∧ Bi s b.2.2) (N : D) (x0 x1 x2 x5 x6 x7 x8 x9 x10 x11 : Option D) :
    ∃ y5 y6 y7, dLoop (dTupG 3 (dGcons (dName 6) (dGcons (dName 5) (dGcons (dName 7) dGnil)))) (B_closed_bounds_1 c) (bs.map (bndD c P)) [x0, x1, x2, some N, some (locsT m.length n), x5, x6, x7, x8, x9, x10, x11] (m ++ rowsT c P n T) = .nx [x0, x1, x2, some N, some (locsT m.length n), y5, y6, y7, x8, x9, x10, x11] (m ++ rowsT c P n (bs.foldl rlxB T)) ∧ BdT s n (bs.foldl rlxB T) := by
  obtain ⟨e2, m2, h1, ⟨y5, y6, y7, rfl⟩, rfl, h3⟩ := loop_rel (g := dTupG 3 (dGcons (dName 6) (dGcons (dName 5) (dGcons (dName 7) dGnil)))) (b := B_closed_bounds_1 c) (F := bndD c P)
    (fun pre e M => (∃ y5 y6 y7, e = [x0, x1, x2, some N, some (locsT m.length n), y5, y6, y7, x8, x9, x10, x11]) ∧ M = m ++ rowsT c P n (pre.foldl rlxB T) ∧ BdT s n (pre.foldl rlxB T))
    bs [] [x0, x1, x2, some N, some (locsT m.length n), x5, x6, x7, x8, x9, x10, x11] (m ++ rowsT c P n T) (fun pre a post hp e M hI => by
      obtain ⟨⟨y5, y6, y7, rfl⟩, rfl, hbb⟩ := hI
      have ha : a ∈ bs := by rw [List.nil_append] at hp; rw [hp]; simp
      obtain ⟨a1, a2, a3⟩ := hb a ha
      have hst := bodyB_ok c hP hbb hs hP2 a1 a2 a3 (m := m) N x0 x1 x2 x8 x9 x10 x11
      refine ⟨_, _, _, ?_, hst, ⟨_, _, _, rfl⟩, ?_, ?_⟩
      · obtain ⟨Q, hQ⟩ : ∃ x, rat c (Rat.divInt a.2.2 P) = x := ⟨_, rfl⟩
        unfold bndD
        rw [hQ]
        simp
      · rw [List.foldl_append]; rfl
      · rw [List.foldl_append]; exact hbb.rlxB a3)
    ⟨⟨_, _, _, rfl⟩, rfl, bd⟩
  exact ⟨y5, y6, y7, h1, h3⟩
end
end W
set_option maxHeartbeats 8000000
namespace W
open PySem PySem.Spec L2 DL
structure Fct where
  kd : Str
  hs : List Nat
  lo : Option Int
  hi : Option Int
def factD (c : Cs) (P : Int) (xs : List Str) (f : Fct) : D := .tup (.str f.kd :: ((f.hs.map fun a => .str (xs.getD a Str.empty)) ++ [oD c P f.lo, oD c P f.hi]))
structure FOk (s n : Nat) (f : Fct) : Prop where
  kd : f.kd = "out" ∨ f.kd = "back"
  hs : (∃ a, f.hs = [a] ∧ a < n) ∨ (∃ a b, f.hs = [a, b] ∧ a < n ∧ b < n ∧ a ≠ b)
  lo : ∀ v, f.lo = some v → Bi s v
  hi : ∀ v, f.hi = some v → Bi s v
  ord : ∀ l h, f.lo = some l → f.hi = some h → l ≤ h
def spotF (f : Fct) : Nat × Nat := match f.hs with
  | [a] => (0, a + 1)
  | [a, b] => (a + 1, b + 1)
  | _ => (0, 0)
def obH (a b : Nat) : Option Int → List Bnd
  | some h => [(a, b, h)]
  | none => []
def obL (a b : Nat) : Option Int → List Bnd
  | some l => [(b, a, -l)]
  | none => []
def bndF (f : Fct) : List Bnd := obH (spotF f).1 (spotF f).2 f.hi ++ obL (spotF f).1 (spotF f).2 f.lo
def bnds (kd : Str) (n : Nat) (fs : List Fct) : List Bnd := ((List.range n).map fun i => (i + 1, 0, 0)) ++ fs.flatMap fun f => if f.kd = kd then bndF f else []
theorem bndF_len (f : Fct) : (bndF f).length ≤ 2 := by
  unfold bndF
  rw [List.length_append]
  cases f.hi <;> cases f.lo <;> simp [obH, obL]
theorem spot_lt {s n : Nat} {f : Fct} (h : FOk s n f) : (spotF f).1 < n + 1 ∧ (spotF f).2 < n + 1 := by
  rcases h.hs with ⟨a, e, ha⟩ | ⟨a, b, e, ha, hb, _⟩
  · unfold spotF; rw [e]; dsimp only; omega
  · unfold spotF; rw [e]; dsimp only; omega
theorem bnds_ok {s n : Nat} {fs : List Fct} (hs : 1 ≤ s) (h : ∀ f ∈ fs, FOk s n f) (kd : Str) : ∀ b ∈ bnds kd n fs, b.1 < n + 1 ∧ b.2.1 < n + 1 ∧ Bi s b.2.2 := fun b hb => by
  have z : Bi s 0 := by unfold Bi; show 0 < 2 ^ s; exact Nat.two_pow_pos s
  rcases List.mem_append.mp hb with hb | hb
  · obtain ⟨i, hi, rfl⟩ := List.mem_map.mp hb
    have := List.mem_range.mp hi
    exact ⟨by dsimp only; omega, by dsimp only; omega, z⟩
  · obtain ⟨f, hf, hb⟩ := List.mem_flatMap.mp hb
    have O := h f hf
    obtain ⟨s1, s2⟩ := spot_lt O
    split at hb
    · unfold bndF at hb
      rcases List.mem_append.mp hb with hb | hb
      · cases e : f.hi with
        | none => rw [e] at hb; cases hb
        | some v => rw [e] at hb; rw [List.mem_singleton.mp hb]; exact ⟨s1, s2, O.hi v e⟩
      · cases e : f.lo with
        | none => rw [e] at hb; cases hb
        | some v => rw [e] at hb; rw [List.mem_singleton.mp hb]; exact ⟨s2, s1, (O.lo v e).neg⟩
    · cases hb
theorem at_getD {xs : List Str} {a : Nat} (h : a < xs.length) : xs[a]? = some (xs.getD a Str.empty) := by
  rw [List.getD_eq_getElem?_getD, List.getElem?_eq_getElem h]; rfl
theorem index_ok {xs : List Str} {a : Nat} (hn : xs.Nodup) (h : a < xs.length) (m : Mu) : fIndex (.lst (xs.map .str)) [.str (xs.getD a Str.empty)] m = .ok (.int a) m := by
  have hv := findV_str _ xs a hn (at_getD h)
  have ht := toVs_strs xs
  obtain ⟨y, hy⟩ : ∃ y, xs.getD a Str.empty = y := ⟨_, rfl⟩
  rw [hy] at hv ⊢
  simp [fIndex, toV, ht, hv]
theorem app1 {m : Mu} {ds : List D} {x : D} : (m ++ [Mo.lst ds]).set m.length (.lst (ds ++ [x])) = m ++ [.lst (ds ++ [x])] := by simp
theorem cut14 (a b x y : D) : cutD [a, b, x, y] (some 1) (some (-2)) = [b] := by simp [cutD, HT.sIx]
theorem cut15 (a b e x y : D) : cutD [a, b, e, x, y] (some 1) (some (-2)) = [b, e] := by simp [cutD, HT.sIx]
theorem ix_m1_4 (a b x y : D) (m : Mu) : gIx (.tup [a, b, x, y]) (.int (-1)) m = .ok y m := rfl
theorem ix_m2_4 (a b x y : D) (m : Mu) : gIx (.tup [a, b, x, y]) (.int (-2)) m = .ok x m := rfl
theorem ix_m1_5 (a b e x y : D) (m : Mu) : gIx (.tup [a, b, e, x, y]) (.int (-1)) m = .ok y m := rfl
theorem ix_m2_5 (a b e x y : D) (m : Mu) : gIx (.tup [a, b, e, x, y]) (.int (-2)) m = .ok x m := rfl
theorem app_lt {ds : List D} {x : D} (h : ds.length < 10000) : fAppend ds [x] = some (ds ++ [x], .non) := by
  unfold fAppend
  exact if_pos (by show _ < 16777216; omega)
theorem tail_ok (c : Cs) {P : Int} (hP : 0 < P) {s : Nat} (hs : s < 4000) (hP2 : Bi s P) {m : Mu} (hm : Cl m) {F : D} {lo hi : Option Int} (hlo : ∀ v, lo = some v → Bi s v) (fm1 : ∀ M, gIx F (.int (-1)) M = .ok (oD c P hi) M) (fm2 : ∀ M, gIx F (.int (-2)) M = .ok (oD c P lo) M) (one other : Nat) (bs : List Bnd) (hl : bs.length < 9000) (x0 x1 x2 x4 x6 x7 : Option D) :
    (dSeq (dIfS (dTst (dBin gNotN (dBin gIx (dVar 5) (dNegI (dC (.int 1)))) (dC .non))) (dDrop (dLm fAppend (dVar 3) (dCons (dTup (dCons (dVar 8) (dCons (dVar 9) (dCons (dBin gIx (dVar 5) (dNegI (dC (.int 1)))) dNil)))) dNil))) dSkip) (dIfS (dTst (dBin gNotN (dBin gIx (dVar 5) (dNegI (dC (.int 2)))) (dC .non))) (dDrop (dLm fAppend (dVar 3) (dCons (dTup (dCons (dVar 9) (dCons (dVar 8) (dCons (dNeg c.cRatio (padF 1 [] (F_RatioD_negD c)) (dBin gIx (dVar 5) (dNegI (dC (.int 2))))) dNil)))) dNil))) dSkip)) [x0, x1, x2, some (.loc m.length), x4, some F, x6, x7, some (.int one), some (.int other)] (m ++ [.lst (bs.map (bndD c P))]) =
      .nx [x0, x1, x2, some (.loc m.length), x4, some F, x6, x7, some (.int one), some (.int other)] (m ++ [.lst ((bs ++ (obH one other hi ++ obL one other lo)).map (bndD c P))]) := by
  have hz : sizeLine = 16777216 := rfl
  have nnN : ∀ M, gNotN .non .non M = .ok (.bl false) M := fun _ => rfl
  have nnR : ∀ q M, gNotN (rat c q) .non M = .ok (.bl true) M := fun _ _ => rfl
  have ngR : ∀ v, lo = some v → ∀ M, Cl M → F_RatioD_negD c [rat c (Rat.divInt v P)] M = .ok (rat c (Rat.divInt (-v) P)) M := fun v hv M hM => by
    have := negR_ok c (Sz.di (hlo v hv) hP2 (by omega)) hM (by omega)
    rw [← Rat.neg_divInt] 
    exact this
  have cl : ∀ bs : List Bnd, Cl (m ++ [.lst (bs.map (bndD c P))]) := fun bs => hm.snoc (by
    show belows _ _ = true
    exact belows_F (fun b => by unfold bndD; simp only [below, belows, Bool.and_true, Bool.true_and]; rfl) _)
  have at0 : ∀ ds : List D, (m ++ [Mo.lst ds])[m.length]? = some (.lst ds) := fun ds => by simp
  -- first
  have st1 : ∃ bs1, bs1 = bs ++ obH one other hi ∧ (dIfS (dTst (dBin gNotN (dBin gIx (dVar 5) (dNegI (dC (.int 1)))) (dC .non))) (dDrop (dLm fAppend (dVar 3) (dCons (dTup (dCons (dVar 8) (dCons (dVar 9) (dCons (dBin gIx (dVar 5) (dNegI (dC (.int 1)))) dNil)))) dNil))) dSkip) [x0, x1, x2, some (.loc m.length), x4, some F, x6, x7, some (.int one), some (.int other)] (m ++ [.lst (bs.map (bndD c P))]) = .nx [x0, x1, x2, some (.loc m.length), x4, some F, x6, x7, some (.int one), some (.int other)] (m ++ [.lst (bs1.map (bndD c P))]) := by
    refine ⟨_, rfl, ?_⟩
    have f1 := fm1 (m ++ [.lst (bs.map (bndD c P))])
    have a0 := at0 (bs.map (bndD c P))
    cases hi with
    | none =>
      have f1 : gIx F (.int (-1)) (m ++ [.lst (bs.map (bndD c P))]) = .ok .non _ := f1
      show _ = DL.RS.nx _ (m ++ [.lst ((bs ++ []).map (bndD c P))])
      rw [List.append_nil]
      obtain ⟨M, hM⟩ : ∃ M, m ++ [Mo.lst (bs.map (bndD c P))] = M := ⟨_, rfl⟩
      rw [hM] at f1 ⊢
      simp [-gNotN_ap, nnN, f1]
    | some h =>
      have f1 : gIx F (.int (-1)) (m ++ [.lst (bs.map (bndD c P))]) = .ok (rat c (Rat.divInt h P)) _ := f1
      have ap := app_lt (ds := bs.map (bndD c P)) (x := bndD c P (one, other, h)) (by rw [List.length_map]; omega)
      have se := app1 (m := m) (ds := bs.map (bndD c P)) (x := bndD c P (one, other, h))
      have n1 := nnR (Rat.divInt h P) (m ++ [.lst (bs.map (bndD c P))])
      have em : (bs ++ [(one, other, h)]).map (bndD c P) = bs.map (bndD c P) ++ [bndD c P (one, other, h)] := by rw [List.map_append]; rfl
      show _ = DL.RS.nx _ (m ++ [.lst ((bs ++ [(one, other, h)]).map (bndD c P))])
      rw [em]
      have eb : bndD c P (one, other, h) = .tup [.int one, .int other, rat c (Rat.divInt h P)] := rfl
      rw [eb] at ap se ⊢
      rw [← se]
      obtain ⟨Q, hQ⟩ : ∃ x, rat c (Rat.divInt h P) = x := ⟨_, rfl⟩
      rw [hQ] at f1 ap n1 ⊢
      obtain ⟨DS, hDS⟩ : ∃ x, bs.map (bndD c P) = x := ⟨_, rfl⟩
      rw [hDS] at f1 a0 ap n1 ⊢
      obtain ⟨M, hM⟩ : ∃ M, m ++ [Mo.lst DS] = M := ⟨_, rfl⟩
      rw [hM] at f1 a0 n1 ⊢
      obtain ⟨L, hL⟩ : ∃ x, m.length = x := ⟨_, rfl⟩
      rw [hL] at a0 ⊢
      simp [-gNotN_ap, n1, f1, a0, ap, hz]
  obtain ⟨bs1, e1, st1⟩ := st1
  have l1 : bs1.length < 9500 := by rw [e1, List.length_append]; cases hi <;> simp [obH] <;> omega
  rw [dSeq_nx st1, ← List.append_assoc, ← e1]
  have f2 := fm2 (m ++ [.lst (bs1.map (bndD c P))])
  have a0 := at0 (bs1.map (bndD c P))
  cases lo with
  | none =>
    have f2 : gIx F (.int (-2)) (m ++ [.lst (bs1.map (bndD c P))]) = .ok .non _ := f2
    show _ = DL.RS.nx _ (m ++ [.lst ((bs1 ++ []).map (bndD c P))])
    rw [List.append_nil]
    obtain ⟨M, hM⟩ : ∃ M, m ++ [Mo.lst (bs1.map (bndD c P))] = M := ⟨_, rfl⟩
    rw [hM] at f2 ⊢
    simp [-gNotN_ap, nnN, f2]
  | some v =>
    have f2 : gIx F (.int (-2)) (m ++ [.lst (bs1.map (bndD c P))]) = .ok (rat c (Rat.divInt v P)) _ := f2
    have ng := ngR v rfl _ (cl bs1)
    have ap := app_lt (ds := bs1.map (bndD c P)) (x := bndD c P (other, one, -v)) (by rw [List.length_map]; omega)
    have se := app1 (m := m) (ds := bs1.map (bndD c P)) (x := bndD c P (other, one, -v))
    have n1 := nnR (Rat.divInt v P) (m ++ [.lst (bs1.map (bndD c P))])
    have em : (bs1 ++ [(other, one, -v)]).map (bndD c P) = bs1.map (bndD c P) ++ [bndD c P (other, one, -v)] := by rw [List.map_append]; rfl
    show _ = DL.RS.nx _ (m ++ [.lst ((bs1 ++ [(other, one, -v)]).map (bndD c P))])
    rw [em]
    have eb : bndD c P (other, one, -v) = .tup [.int other, .int one, rat c (Rat.divInt (-v) P)] := rfl
    rw [eb] at ap se ⊢
    rw [← se]
    obtain ⟨DS, hDS⟩ : ∃ x, bs1.map (bndD c P) = x := ⟨_, rfl⟩
    rw [hDS] at f2 a0 ap n1 ng ⊢
    obtain ⟨M, hM⟩ : ∃ M, m ++ [Mo.lst DS] = M := ⟨_, rfl⟩
    rw [hM] at f2 a0 n1 ng ⊢
    have dn : dNeg c.cRatio (padF 1 [] (F_RatioD_negD c)) (dBin gIx (dVar 5) (dNegI (dC (.int 2)))) [x0, x1, x2, some (.loc m.length), x4, some F, x6, x7, some (.int one), some (.int other)] M = .ok (rat c (Rat.divInt (-v) P)) M := by
      rw [dNeg_of (d := rat c (Rat.divInt v P)) (m1 := M) (by simp [f2]) (insOf_rat M c _)]
      simp [ng]
    obtain ⟨Q, hQ⟩ : ∃ x, rat c (Rat.divInt v P) = x := ⟨_, rfl⟩
    rw [hQ] at f2 n1
    obtain ⟨Q2, hQ2⟩ : ∃ x, rat c (Rat.divInt (-v) P) = x := ⟨_, rfl⟩
    rw [hQ2] at ap dn ⊢
    obtain ⟨L, hL⟩ : ∃ x, m.length = x := ⟨_, rfl⟩
    rw [hL] at a0 dn ⊢
    simp [-gNotN_ap, -dNeg_ap, n1, f2, a0, ap, dn, hz]
end W
set_option maxHeartbeats 8000000
namespace W
open PySem PySem.Spec L2 DL
section
variable {P : Int} {s : Nat} {m : Mu} {xs : List Str}
theorem dIfS_tT {t : DT} {u w : DS} {e : En} {m m1 : Mu} (h : t e m = .ok true m1) : dIfS t u w e m = u e m1 := by
  simp [h]
theorem bodyF_ok (c : Cs) (hP : 0 < P) (hs : s < 4000) (hP2 : Bi s P) (hm : Cl m) (hn : xs.Nodup) {f : Fct} (hf : FOk s xs.length f) (kd : Str) (bs : List Bnd) (hl : bs.length < 9000) (x1 x4 x6 x7 x8 x9 : Option D) :
    ∃ y6 y7 y8 y9, B_bounds_of_1 c [some (.str kd), x1, some (.lst (xs.map .str)), some (.loc m.length), x4, some (factD c P xs f), x6, x7, x8, x9] (m ++ [.lst (bs.map (bndD c P))]) = .nx [some (.str kd), x1, some (.lst (xs.map .str)), some (.loc m.length), x4, some (factD c P xs f), y6, y7, y8, y9] (m ++ [.lst ((bs ++ if f.kd = kd then bndF f else []).map (bndD c P))]) := by
  have hz : sizeLine = 16777216 := rfl
  have ix0 : ∀ M, gIx (factD c P xs f) (.int 0) M = .ok (.str f.kd) M := fun M => by
    rcases hf.hs with ⟨a, e, _⟩ | ⟨a, b, e, _⟩ <;> (unfold factD; rw [e]; rfl)
  have gk : ∀ M, gEq (.str f.kd) (.str kd) M = .ok (.bl (decide (f.kd = kd))) M := fun M => by simp [gEq, scEq]
  have iss : ∀ (x : Str) M, insOf M (.str x) = none := fun _ _ => rfl
  by_cases hk : f.kd = kd
  · rw [if_pos hk]
    have gk : ∀ M, gEq (.str f.kd) (.str kd) M = .ok (.bl true) M := fun M => by rw [gk, decide_eq_true hk]
    rcases hf.hs with ⟨a, e, ha⟩ | ⟨a, b, e, ha, hb, hab⟩
    · have id := index_ok hn ha
      have tl := tail_ok c hP hs hP2 hm (F := factD c P xs f) (lo := f.lo) (hi := f.hi) hf.lo (fun M => by unfold factD; rw [e]; exact ix_m1_4 _ _ _ _ M) (fun M => by unfold factD; rw [e]; exact ix_m2_4 _ _ _ _ M) 0 (a + 1) bs hl
      have eb : obH 0 (a + 1) f.hi ++ obL 0 (a + 1) f.lo = bndF f := by unfold bndF spotF; rw [e]
      rw [eb] at tl
      have fd : factD c P xs f = .tup [.str f.kd, .str (xs.getD a Str.empty), oD c P f.lo, oD c P f.hi] := by unfold factD; rw [e]; rfl
      obtain ⟨NA, hNA⟩ : ∃ x, xs.getD a Str.empty = x := ⟨_, rfl⟩
      obtain ⟨LO, hLO⟩ : ∃ x, oD c P f.lo = x := ⟨_, rfl⟩
      obtain ⟨HI, hHI⟩ : ∃ x, oD c P f.hi = x := ⟨_, rfl⟩
      rw [hNA, hLO, hHI] at fd
      rw [hNA] at id
      rw [fd] at tl ix0 ⊢
      obtain ⟨M2, hM2⟩ : ∃ M, m ++ [Mo.lst ((bs ++ bndF f).map (bndD c P))] = M := ⟨_, rfl⟩
      obtain ⟨M, hM⟩ : ∃ M, m ++ [Mo.lst (bs.map (bndD c P))] = M := ⟨_, rfl⟩
      obtain ⟨XS, hXS⟩ : ∃ x, xs.map D.str = x := ⟨_, rfl⟩
      rw [hXS] at id
      rw [hM, hM2] at tl
      rw [hM, hM2, hXS]
      have tl := tl (some (.str kd)) x1 (some (.lst XS)) x4 (some (.lst [.int ((a : Nat) + 1)])) x7
      have z0 : ((0 : Nat) : Int) = 0 := rfl
      have z1 : ((a + 1 : Nat) : Int) = (a : Int) + 1 := by omega
      rw [z0, z1] at tl
      obtain ⟨AI, hAI⟩ : ∃ x : Int, ((a : Nat) : Int) = x := ⟨_, rfl⟩
      rw [hAI] at tl id
      obtain ⟨LL, hLL⟩ : ∃ x, m.length = x := ⟨_, rfl⟩
      rw [hLL] at tl
      rw [hLL]
      have id := id M
      have ix0 := ix0 M
      have gk := gk M
      refine ⟨some (.lst [.int (AI + 1)]), x7, some (.int 0), some (.int (AI + 1)), ?_⟩
      rw [B_bounds_of_1_ap]
      refine (dIfS_tT (m1 := M) (by simp [ix0, dOwnEq, iss, gk, orD])).trans ?_
      refine (dSeq_nx (e1 := [some (.str kd), x1, some (.lst XS), some (.loc LL), x4, some (.tup [.str f.kd, .str NA, LO, HI]), some (.lst [.int (AI + 1)]), x7, x8, x9]) (m1 := M) ?_).trans ?_
      · simp [cut14, C_bounds_of_2_ap, id, wipeE, hz]
      refine (dSeq_nx (e1 := [some (.str kd), x1, some (.lst XS), some (.loc LL), x4, some (.tup [.str f.kd, .str NA, LO, HI]), some (.lst [.int (AI + 1)]), x7, some (.int 0), some (.int (AI + 1))]) (m1 := M) ?_).trans tl
      · simp [hz]
    · have id := index_ok hn ha
      have id2 := index_ok hn hb
      have tl := tail_ok c hP hs hP2 hm (F := factD c P xs f) (lo := f.lo) (hi := f.hi) hf.lo (fun M => by unfold factD; rw [e]; exact ix_m1_5 _ _ _ _ _ M) (fun M => by unfold factD; rw [e]; exact ix_m2_5 _ _ _ _ _ M) (a + 1) (b + 1) bs hl
      have eb : obH (a + 1) (b + 1) f.hi ++ obL (a + 1) (b + 1) f.lo = bndF f := by unfold bndF spotF; rw [e]
      rw [eb] at tl
      have fd : factD c P xs f = .tup [.str f.kd, .str (xs.getD a Str.empty), .str (xs.getD b Str.empty), oD c P f.lo, oD c P f.hi] := by unfold factD; rw [e]; rfl
      obtain ⟨NA, hNA⟩ : ∃ x, xs.getD a Str.empty = x := ⟨_, rfl⟩
      obtain ⟨NB, hNB⟩ : ∃ x, xs.getD b Str.empty = x := ⟨_, rfl⟩
      obtain ⟨LO, hLO⟩ : ∃ x, oD c P f.lo = x := ⟨_, rfl⟩
      obtain ⟨HI, hHI⟩ : ∃ x, oD c P f.hi = x := ⟨_, rfl⟩
      rw [hNA, hNB, hLO, hHI] at fd
      rw [hNA] at id
      rw [hNB] at id2
      rw [fd] at tl ix0 ⊢
      obtain ⟨M2, hM2⟩ : ∃ M, m ++ [Mo.lst ((bs ++ bndF f).map (bndD c P))] = M := ⟨_, rfl⟩
      obtain ⟨M, hM⟩ : ∃ M, m ++ [Mo.lst (bs.map (bndD c P))] = M := ⟨_, rfl⟩
      obtain ⟨XS, hXS⟩ : ∃ x, xs.map D.str = x := ⟨_, rfl⟩
      rw [hXS] at id id2
      rw [hM, hM2] at tl
      rw [hM, hM2, hXS]
      have tl := tl (some (.str kd)) x1 (some (.lst XS)) x4 (some (.lst [.int ((a : Nat) + 1), .int ((b : Nat) + 1)])) x7
      have z0 : ((a + 1 : Nat) : Int) = (a : Int) + 1 := by omega
      have z1 : ((b + 1 : Nat) : Int) = (b : Int) + 1 := by omega
      rw [z0, z1] at tl
      obtain ⟨AI, hAI⟩ : ∃ x : Int, ((a : Nat) : Int) = x := ⟨_, rfl⟩
      obtain ⟨BI, hBI⟩ : ∃ x : Int, ((b : Nat) : Int) = x := ⟨_, rfl⟩
      rw [hAI, hBI] at tl
      rw [hAI] at id
      rw [hBI] at id2
      obtain ⟨LL, hLL⟩ : ∃ x, m.length = x := ⟨_, rfl⟩
      rw [hLL] at tl
      rw [hLL]
      have id := id M
      have ix0 := ix0 M
      have gk := gk M
      have id2 := id2 M
      refine ⟨some (.lst [.int (AI + 1), .int (BI + 1)]), x7, some (.int (AI + 1)), some (.int (BI + 1)), ?_⟩
      rw [B_bounds_of_1_ap]
      refine (dIfS_tT (m1 := M) (by simp [ix0, dOwnEq, iss, gk, orD])).trans ?_
      refine (dSeq_nx (e1 := [some (.str kd), x1, some (.lst XS), some (.loc LL), x4, some (.tup [.str f.kd, .str NA, .str NB, LO, HI]), some (.lst [.int (AI + 1), .int (BI + 1)]), x7, x8, x9]) (m1 := M) ?_).trans ?_
      · simp [cut15, C_bounds_of_2_ap, id, id2, wipeE, hz]
      refine (dSeq_nx (e1 := [some (.str kd), x1, some (.lst XS), some (.loc LL), x4, some (.tup [.str f.kd, .str NA, .str NB, LO, HI]), some (.lst [.int (AI + 1), .int (BI + 1)]), x7, some (.int (AI + 1)), some (.int (BI + 1))]) (m1 := M) ?_).trans tl
      · simp [hz]
  · rw [if_neg hk, List.append_nil]
    have gk : ∀ M, gEq (.str f.kd) (.str kd) M = .ok (.bl false) M := fun M => by rw [gk, decide_eq_false hk]
    obtain ⟨FD, hFD⟩ : ∃ x, factD c P xs f = x := ⟨_, rfl⟩
    rw [hFD] at ix0 ⊢
    obtain ⟨M, hM⟩ : ∃ M, m ++ [Mo.lst (bs.map (bndD c P))] = M := ⟨_, rfl⟩
    rw [hM]
    have ix0 := ix0 M
    have gk := gk M
    refine ⟨x6, x7, x8, x9, ?_⟩
    simp [B_bounds_of_1_ap, ix0, dOwnEq, iss, gk, orD]
end
end W
set_option maxHeartbeats 8000000
namespace W
open PySem PySem.Spec L2 DL
section
variable {P : Int} {s : Nat} {m : Mu} {xs : List Str}
theorem bndDs_below (c : Cs) (P : Int) (n : Nat) (bs : List Bnd) : belows n (bs.map (bndD c P)) = true := belows_F (fun b => by unfold bndD; simp only [below, belows, Bool.and_true, Bool.true_and]; rfl) _
theorem bnd_len (kd : Str) : ∀ fs : List Fct, (fs.flatMap fun f => if f.kd = kd then bndF f else []).length ≤ 2 * fs.length
  | [] => Nat.zero_le _
  | f :: fs => by
    have ih := bnd_len kd fs
    have h := bndF_len f
    rw [List.flatMap_cons, List.length_append, List.length_cons]
    split
    · omega
    · simp only [List.length_nil]; omega
theorem dZap_eq (F : DFn) (ds : List D) (m : Mu) : dZap F ds m = zapR m.length (F ds m) := rfl
theorem bounds_of_ok (c : Cs) (hP : 0 < P) (hs : s < 4000) (hP2 : Bi s P) (hm : Cl m) (hn : xs.Nodup) (hx : xs.length ≤ 100) {fs : List Fct} (hf : ∀ f ∈ fs, FOk s xs.length f) (hl : fs.length ≤ 1000) (kd : Str) :
    F_bounds_of c [.str kd, .lst (fs.map (factD c P xs)), .lst (xs.map .str)] m = .ok (.lst ((bnds kd xs.length fs).map (bndD c P))) m := by
  have hz : sizeLine = 16777216 := rfl
  obtain ⟨n, hnn⟩ : ∃ n, xs.length = n := ⟨_, rfl⟩
  rw [hnn] at hx
  have z0 : (0 : Rat) = Rat.divInt 0 P := (Rat.zero_divInt P).symm
  have cm : ∀ x3 x5 x6 x7 x8 x9 : Option D, dCompL (dName 4) dYes (C_bounds_of_1 c) [some (.str kd), some (.lst (fs.map (factD c P xs))), some (.lst (xs.map .str)), x3, none, x5, x6, x7, x8, x9] ((List.range n).map fun i : Nat => D.int i) m [] = .ok (((List.range n).map fun i => ((i + 1, 0, 0) : Bnd)).map (bndD c P)) m := fun x3 x5 x6 x7 x8 x9 => by
    rw [compL_of (F := fun i : Nat => D.int i) (f := fun i => bndD c P (i + 1, 0, 0)) (p := fun _ => true) (List.range n) [] (fun i hi => ⟨[some (.str kd), some (.lst (fs.map (factD c P xs))), some (.lst (xs.map .str)), x3, some (.int (i : Nat)), x5, x6, x7, x8, x9], by simp, by simp, fun _ => by
      have r := rmk1 c (a := 0) (k := 5) hm
      have e : bndD c P (i + 1, 0, 0) = .tup [.int ((i : Nat) + 1), .int 0, rat c ((0 : Int) : Rat)] := by
        unfold bndD
        have z : ((0 : Int) : Rat) = Rat.divInt 0 P := z0
        rw [z]
        rfl
      rw [e]
      obtain ⟨Q, hQ⟩ : ∃ x, rat c ((0 : Int) : Rat) = x := ⟨_, rfl⟩
      rw [hQ] at r ⊢
      simp [C_bounds_of_1_ap, r, hz]⟩) (by simp [hz]; omega), filt_true, List.nil_append, List.map_map]
    rfl
  obtain ⟨e2, m2, h1, ⟨y4, y5, y6, y7, y8, y9, rfl⟩, rfl⟩ := loop_rel (g := dName 5) (b := B_bounds_of_1 c) (F := factD c P xs)
    (fun pre e M => (∃ y4 y5 y6 y7 y8 y9, e = [some (.str kd), some (.lst (fs.map (factD c P xs))), some (.lst (xs.map .str)), some (.loc m.length), y4, y5, y6, y7, y8, y9]) ∧ M = m ++ [.lst ((((List.range n).map fun i => ((i + 1, 0, 0) : Bnd)) ++ pre.flatMap fun f => if f.kd = kd then bndF f else []).map (bndD c P))])
    fs [] [some (.str kd), some (.lst (fs.map (factD c P xs))), some (.lst (xs.map .str)), some (.loc m.length), none, none, none, none, none, none] (m ++ [.lst ((((List.range n).map fun i => ((i + 1, 0, 0) : Bnd))).map (bndD c P))]) (fun pre a post hp e M hI => by
      obtain ⟨⟨y4, y5, y6, y7, y8, y9, rfl⟩, rfl⟩ := hI
      have ha : a ∈ fs := by rw [List.nil_append] at hp; rw [hp]; simp
      have hpl : pre.length ≤ fs.length := by rw [List.nil_append] at hp; rw [hp]; simp
      have fl := bnd_len kd pre
      obtain ⟨z6, z7, z8, z9, st⟩ := bodyF_ok c hP hs hP2 hm hn (hf a ha) kd (((List.range n).map fun i => ((i + 1, 0, 0) : Bnd)) ++ pre.flatMap fun f => if f.kd = kd then bndF f else []) (by rw [List.length_append]; simp only [List.length_map, List.length_range]; omega) (some (.lst (fs.map (factD c P xs)))) y4 y6 y7 y8 y9
      refine ⟨_, _, _, ?_, st, ⟨_, _, _, _, _, _, rfl⟩, ?_⟩
      · simp
      · rw [List.flatMap_append, ← List.append_assoc]
        simp)
    ⟨⟨_, _, _, _, _, _, rfl⟩, by simp⟩
  have bb := bndDs_below c P m.length (bnds kd n fs)
  have lp : dLoop (dName 5) (B_bounds_of_1 c) (fs.map (factD c P xs)) [some (.str kd), some (.lst (fs.map (factD c P xs))), some (.lst (xs.map .str)), some (.loc m.length), none, none, none, none, none, none] (m ++ [.lst ((((List.range n).map fun i => ((i + 1, 0, 0) : Bnd))).map (bndD c P))]) = .nx [some (.str kd), some (.lst (fs.map (factD c P xs))), some (.lst (xs.map .str)), some (.loc m.length), y4, y5, y6, y7, y8, y9] (m ++ [.lst ((bnds kd n fs).map (bndD c P))]) := by
    rw [h1]; rfl
  have xl : (xs.map D.str).length = n := by rw [List.length_map, hnn]
  rw [hnn]
  have rg : ∀ N : Int, N = n → rngD 0 N.toNat = (List.range n).map fun i : Nat => D.int i := fun N hN => by rw [hN, Int.toNat_natCast, rngD_map]
  obtain ⟨N, hN⟩ : ∃ N : Int, ((n : Nat) : Int) = N := ⟨_, rfl⟩
  have rg := rg N hN.symm
  have cm := cm none none none none none none
  obtain ⟨FD, hFD⟩ : ∃ x, fs.map (factD c P xs) = x := ⟨_, rfl⟩
  obtain ⟨XD, hXD⟩ : ∃ x, xs.map D.str = x := ⟨_, rfl⟩
  obtain ⟨B0, hB0⟩ : ∃ x, ((List.range n).map fun i => ((i + 1, 0, 0) : Bnd)).map (bndD c P) = x := ⟨_, rfl⟩
  obtain ⟨B1, hB1⟩ : ∃ x, (bnds kd n fs).map (bndD c P) = x := ⟨_, rfl⟩
  obtain ⟨RG, hRG⟩ : ∃ x, ((List.range n).map fun i : Nat => D.int i) = x := ⟨_, rfl⟩
  rw [hFD, hXD, hB0] at cm lp
  rw [hRG] at cm rg
  rw [hB1] at lp bb
  rw [hXD] at xl
  rw [hFD, hXD, hB1]
  have it : dItR1 (dCons (dFun gLen (dCons (dVar 2) dNil)) dNil) [some (.str kd), some (.lst FD), some (.lst XD), none, none, none, none, none, none, none] m = .ok RG m := by
    rw [← rg]
    exact dItR1_of (by simp [xl, hN]) (by omega) (by omega)
  have ff : dFor (dItL (dVar 1)) (dName 5) (B_bounds_of_1 c) [some (.str kd), some (.lst FD), some (.lst XD), some (.loc m.length), none, none, none, none, none, none] (m ++ [.lst B0]) = .nx [some (.str kd), some (.lst FD), some (.lst XD), some (.loc m.length), y4, y5, y6, y7, y8, y9] (m ++ [.lst B1]) := dFor_isT (by simp) lp
  have s1 : dSet 3 (dCompM (dItR1 (dCons (dFun gLen (dCons (dVar 2) dNil)) dNil)) (dName 4) dYes (C_bounds_of_1 c) [4]) [some (.str kd), some (.lst FD), some (.lst XD), none, none, none, none, none, none, none] m = .nx [some (.str kd), some (.lst FD), some (.lst XD), some (.loc m.length), none, none, none, none, none, none] (m ++ [.lst B0]) := by
    rw [dSet_ap, dCompM_ap, it]
    simp [wipeE, cm]
  have e0 : (env0 10 [D.str kd, .lst FD, .lst XD] : En) = [some (.str kd), some (.lst FD), some (.lst XD), none, none, none, none, none, none, none] := by simp [env0]
  have tk : (m ++ [Mo.lst B1]).take m.length = m := by simp
  have a0 : (m ++ [Mo.lst B1])[m.length]? = some (.lst B1) := by simp
  have fn : dFn 10 (dSeq (dSet 3 (dCompM (dItR1 (dCons (dFun gLen (dCons (dVar 2) dNil)) dNil)) (dName 4) dYes (C_bounds_of_1 c) [4])) (dSeq (dFor (dItL (dVar 1)) (dName 5) (B_bounds_of_1 c)) (dRet (dVar 3)))) [D.str kd, .lst FD, .lst XD] m = .ok (.loc m.length) (m ++ [.lst B1]) := by
    rw [dFn_ap, e0, dSeq_nx s1, dSeq_nx ff]
    simp
  unfold F_bounds_of
  rw [dZap_eq, fn]
  obtain ⟨M, hM⟩ : ∃ M, m ++ [Mo.lst B1] = M := ⟨_, rfl⟩
  rw [hM] at tk a0 ⊢
  obtain ⟨L, hL⟩ : ∃ L, m.length = L := ⟨_, rfl⟩
  rw [hL] at tk a0 bb ⊢
  unfold zapR
  dsimp only
  rw [tk, if_pos ⟨hm, hL⟩, if_neg (Nat.lt_irrefl L), a0]
  dsimp only
  rw [if_pos bb]
end
end W
set_option maxHeartbeats 8000000
namespace W
open PySem PySem.Spec L2 DL
theorem compL_grow {g : DG} {cc : DT} {b : DE} {e : En} (F : Nat → D) (R : Nat → Mo) {n : Nat} (hR : ∀ i M, Cl M → Cl (M ++ [R i])) (hb : ∀ i M, i < n → Cl M → ∃ e1, g (F i) e = some e1 ∧ cc e1 M = .ok true M ∧ b e1 M = .ok (.loc M.length) (M ++ [R i])) :
    ∀ (l : List Nat) (acc : List D) (M : Mu), (∀ i ∈ l, i < n) → Cl M → acc.length + l.length ≤ 1000 → dCompL g cc b e (l.map F) M acc = .ok (acc ++ (List.range l.length).map fun k => .loc (M.length + k)) (M ++ l.map R)
  | [], acc, M, _, _, _ => by simp
  | i :: l, acc, M, hl, hM, hz => by
    obtain ⟨e1, h1, h2, h3⟩ := hb i M (hl i (by simp)) hM
    simp only [List.length_cons] at hz
    have ih := compL_grow F R hR hb l (acc ++ [.loc M.length]) (M ++ [R i]) (fun j hj => hl j (by simp [hj])) (hR i M hM) (by rw [List.length_append, List.length_singleton]; omega)
    rw [List.map_cons]
    unfold dCompL
    rw [h1]
    simp only [h2, h3]
    rw [if_pos (by show _ < 16777216; omega), ih]
    congr 1
    · rw [List.append_assoc, List.length_cons, List.range_succ_eq_map, List.map_cons, List.map_map]
      congr 1
      show _ = D.loc (M.length + 0) :: _
      rw [Nat.add_zero]
      show D.loc M.length :: _ = _
      congr 1
      apply List.map_congr_left
      intro k _
      show D.loc _ = D.loc _
      rw [List.length_append, List.length_singleton]
      congr 1
      omega
    · rw [List.map_cons, List.append_assoc]; rfl
def T0 : Tb := fun i j => if i = j then some 0 else none
def closeT (kd : Str) (n : Nat) (fs : List Fct) : Tb := rlx3 (n + 1) ((bnds kd n fs).foldl rlxB T0)
def tabD (c : Cs) (P : Int) (n : Nat) (T : Tb) : D := .lst ((List.range n).map fun i => .lst (rowT c P n T i))
def Gr (T U : Tb) : Prop := ∀ i j, (T i j).isSome = true → (U i j).isSome = true
theorem Gr.rfl' (T : Tb) : Gr T T := fun _ _ h => h
theorem Gr.trans {T U V : Tb} (h : Gr T U) (k : Gr U V) : Gr T V := fun i j e => k i j (h i j e)
theorem gr_upd (T : Tb) (i j : Nat) (v : Int) : Gr T (updT T i j v) := fun a b h => by
  unfold updT
  split
  · rfl
  · exact h
theorem gr_rlx (T : Tb) (k i j : Nat) : Gr T (rlx T k i j) := by
  unfold rlx
  split
  · split
    · exact gr_upd _ _ _ _
    · split
      · exact gr_upd _ _ _ _
      · exact Gr.rfl' _
  · exact Gr.rfl' _
theorem gr_rlxB (T : Tb) (b : Bnd) : Gr T (rlxB T b) := by
  unfold rlxB
  split
  · exact gr_upd _ _ _ _
  · split
    · exact gr_upd _ _ _ _
    · exact Gr.rfl' _
theorem gr_fold {α : Type} {f : Tb → α → Tb} (h : ∀ T a, Gr T (f T a)) : ∀ (l : List α) (T : Tb), Gr T (l.foldl f T)
  | [], T => Gr.rfl' T
  | a :: l, T => (h T a).trans (gr_fold h l (f T a))
theorem gr_rlx3 (n : Nat) (T : Tb) : Gr T (rlx3 n T) := gr_fold (fun T k => gr_fold (fun T i => gr_fold (fun T j => gr_rlx T k i j) _ T) _ T) _ T
theorem close_diag (kd : Str) (n : Nat) (fs : List Fct) (i : Nat) : ∃ v, closeT kd n fs i i = some v := by
  have : (closeT kd n fs i i).isSome = true := gr_rlx3 _ _ i i (gr_fold gr_rlxB _ _ i i (by unfold T0; rw [if_pos rfl]; rfl))
  exact Option.isSome_iff_exists.mp this
theorem frz_map {α : Type} {k : Nat} {m : Mu} {G H : α → D} {F0 : Nat} {xs : List α} (h : ∀ a ∈ xs, ∀ f, F0 ≤ f → frzD k m f (G a) = some (H a)) : ∀ f, F0 + xs.length + 1 ≤ f → frzDs k m f (xs.map G) = some (xs.map H) := by
  induction xs with
  | nil =>
    intro f hf
    obtain ⟨g, rfl⟩ : ∃ g, f = g + 1 := ⟨f - 1, by omega⟩
    rfl
  | cons x xs ih =>
    intro f hf
    simp only [List.length_cons] at hf
    obtain ⟨g, rfl⟩ : ∃ g, f = g + 1 := ⟨f - 1, by omega⟩
    rw [List.map_cons]
    unfold frzDs
    rw [h x (by simp) g (by omega), ih (fun a ha => h a (by simp [ha])) g (by omega)]
    rfl
theorem frz_oD (c : Cs) (P : Int) (k : Nat) (m : Mu) (v : Option Int) : ∀ f, 1 ≤ f → frzD k m f (oD c P v) = some (oD c P v) := fun f hf => by
  obtain ⟨g, rfl⟩ : ∃ g, f = g + 1 := ⟨f - 1, by omega⟩
  have b := oD_below c P k v
  cases v with
  | none => rfl
  | some q =>
    show frzD k m (g + 1) (.obj c.kRatio _) = _
    unfold frzD
    exact if_pos b
theorem frz_tab (c : Cs) (P : Int) {n : Nat} (hn : n ≤ 20) (T : Tb) (m : Mu) : frzD m.length (m ++ rowsT c P n T) 400 (locsT m.length n) = some (tabD c P n T) := by
  unfold locsT tabD
  show frzD m.length (m ++ rowsT c P n T) (399 + 1) _ = _
  unfold frzD
  rw [frz_map (F0 := 100) (G := fun i => D.loc (m.length + i)) (H := fun i => D.lst (rowT c P n T i)) (fun i hi f hf => by
    obtain ⟨g, rfl⟩ : ∃ g, f = g + 1 := ⟨f - 1, by omega⟩
    have hi := List.mem_range.mp hi
    unfold frzD
    rw [if_neg (by omega), rows_at c P T m hi]
    dsimp only
    unfold rowT
    rw [frz_map (F0 := 1) (G := fun j => oD c P (T i j)) (H := fun j => oD c P (T i j)) (fun j _ f hf => frz_oD c P _ _ _ f hf) g (by simp; omega)]
    rfl) 399 (by simp; omega)]
  rfl
theorem forS_lst {t : DE} {g : DG} {b : DS} {e : En} {m m1 : Mu} {ds : List D} {r : RS} (h : t e m = .ok (.lst ds) m1) (k : dLoop g b ds e m1 = r) : dForS t g b e m = r := by
  rw [dForS_ap, h]
  exact k
theorem call3 {G : DFn} {a b d r : D} {x3 x4 x5 x6 x7 x8 x9 x10 x11 : Option D} {M M' : Mu} (h : G [a, b, d] M = .ok r M') : dFun (padF 3 [] G) (dCons (dVar 0) (dCons (dVar 1) (dCons (dVar 2) dNil))) [some a, some b, some d, x3, x4, x5, x6, x7, x8, x9, x10, x11] M = .ok r M' := by
  simp [h]
theorem dZapN_eq (F : DFn) (ds : List D) (m : Mu) : dZapN F ds m = zapRN m.length (F ds m) := rfl
theorem toBs_ints {α : Type} (f : α → Bool) : ∀ xs : List α, toBs (xs.map fun x => .bl (f x)) = some (xs.map f)
  | [] => rfl
  | x :: xs => by simp [toBs, toBs_ints f xs]
section
variable {P : Int} {s : Nat} {m : Mu} {xs : List Str}
theorem inner_ok (c : Cs) (P : Int) {n : Nat} (hx2 : n ≤ 12) {N : Int} (hN : N = ((n + 1 : Nat) : Int)) (x0 x1 x2 x4 x5 x7 x8 x9 x10 x11 : Option D) (i : Nat) (M : Mu) (hi : i < n + 1) (hM : Cl M) : C_closed_bounds_2 c [x0, x1, x2, some (.int N), x4, x5, some (.int ((i : Nat) : Int)), x7, x8, x9, x10, x11] M = .ok (.loc M.length) (M ++ [.lst (rowT c P (n + 1) T0 i)]) := by
  have hz : sizeLine = 16777216 := rfl
  have z0 : ((0 : Int) : Rat) = Rat.divInt 0 P := (Rat.zero_divInt P).symm
  have N0 : 0 ≤ N := by omega
  have N1 : N ≤ 1000 := by omega
  have rgN : rngD 0 N.toNat = (List.range (n + 1)).map fun i : Nat => D.int i := by rw [hN, Int.toNat_natCast, rngD_map]
  have cm : dCompL (dName 5) dYes (C_closed_bounds_1 c) [x0, x1, x2, some (.int N), x4, none, some (.int ((i : Nat) : Int)), x7, x8, x9, x10, x11] ((List.range (n + 1)).map fun i : Nat => D.int i) M [] = .ok (rowT c P (n + 1) T0 i) M := by
    rw [compL_of (F := fun i : Nat => D.int i) (f := fun j => oD c P (T0 i j)) (p := fun _ => true) (List.range (n + 1)) [] (fun j hj => ⟨[x0, x1, x2, some (.int N), x4, some (.int ((j : Nat) : Int)), some (.int ((i : Nat) : Int)), x7, x8, x9, x10, x11], by simp, by simp, fun _ => by
      have r := rmk1 c (a := 0) (k := 5) hM
      rw [z0] at r
      have ge : gEq (.int ((i : Nat) : Int)) (.int ((j : Nat) : Int)) M = .ok (.bl (decide (i = j))) M := by
        have : decide (((i : Nat) : Int) = ((j : Nat) : Int)) = decide (i = j) := decide_eq_decide.mpr (by omega)
        simp [gEq, scEq, this]
      unfold T0
      by_cases e : i = j
      · rw [if_pos e]
        rw [decide_eq_true e] at ge
        show _ = Res.ok (rat c (Rat.divInt 0 P)) M
        obtain ⟨Q, hQ⟩ : ∃ x, rat c (Rat.divInt 0 P) = x := ⟨_, rfl⟩
        rw [hQ] at r ⊢
        obtain ⟨I, hI⟩ : ∃ x : Int, ((i : Nat) : Int) = x := ⟨_, rfl⟩
        obtain ⟨J, hJ⟩ : ∃ x : Int, ((j : Nat) : Int) = x := ⟨_, rfl⟩
        rw [hI, hJ] at ge ⊢
        simp [C_closed_bounds_1_ap, ge, r]
      · rw [if_neg e]
        rw [decide_eq_false e] at ge
        show _ = Res.ok D.non M
        obtain ⟨I, hI⟩ : ∃ x : Int, ((i : Nat) : Int) = x := ⟨_, rfl⟩
        obtain ⟨J, hJ⟩ : ∃ x : Int, ((j : Nat) : Int) = x := ⟨_, rfl⟩
        rw [hI, hJ] at ge ⊢
        simp [C_closed_bounds_1_ap, ge]⟩) (by simp [hz]; omega), filt_true, List.nil_append]
    rfl
  rw [C_closed_bounds_2_ap, dCompM_ap, it_rng N N0 N1, rgN]
  simp [wipeE, cm]
theorem outer_ok (c : Cs) (P : Int) {m : Mu} (hm : Cl m) {n : Nat} (hx2 : n ≤ 12) {N : Int} (hN : N = ((n + 1 : Nat) : Int)) (x0 x1 x2 x5 x7 x8 x9 x10 x11 : Option D) : dCompL (dName 6) dYes (C_closed_bounds_2 c) [x0, x1, x2, some (.int N), none, x5, none, x7, x8, x9, x10, x11] ((List.range (n + 1)).map fun i : Nat => D.int i) m [] = .ok ((List.range (n + 1)).map fun k => .loc (m.length + k)) (m ++ rowsT c P (n + 1) T0) := by
  have := compL_grow (g := dName 6) (cc := dYes) (b := C_closed_bounds_2 c) (e := [x0, x1, x2, some (.int N), none, x5, none, x7, x8, x9, x10, x11]) (fun i : Nat => D.int i) (fun i => Mo.lst (rowT c P (n + 1) T0 i)) (n := n + 1) (fun i M hM => hM.snoc (rowT_below c P _ _ _ _)) (fun i M hi hM => ⟨[x0, x1, x2, some (.int N), none, x5, some (.int ((i : Nat) : Int)), x7, x8, x9, x10, x11], by simp, by simp, inner_ok c P hx2 hN _ _ _ _ _ _ _ _ _ _ i M hi hM⟩) (List.range (n + 1)) [] m (fun i hi => List.mem_range.mp hi) hm (by simp; omega)
  rw [List.length_range, List.nil_append] at this
  exact this
theorem closed_run (c : Cs) (hP : 0 < P) (hs : s + 2300 < 4000) (h1 : 1 ≤ s) (hP2 : Bi s P) (hm : Cl m) (hn : xs.Nodup) {n : Nat} (hx : xs.length = n) (hx2 : n ≤ 12) {fs : List Fct} (hf : ∀ f ∈ fs, FOk s n f) (hl : fs.length ≤ 1000) (kd : Str) (u : DS) :
    ∃ y5 y6 y7 y8 y9 y10, dFn 12 (dSeq (dSet 3 (dBin gAdd (dFun gLen (dCons (dVar 2) dNil)) (dC (.int 1)))) (dSeq (dSet 4 (dComp (dItR1 (dCons (dVar 3) dNil)) (dName 6) dYes (C_closed_bounds_2 c) [6])) (dSeq (dForS (dFun (padF 3 [] (F_bounds_of c)) (dCons (dVar 0) (dCons (dVar 1) (dCons (dVar 2) dNil)))) (dTupG 3 (dGcons (dName 6) (dGcons (dName 5) (dGcons (dName 7) dGnil)))) (B_closed_bounds_1 c)) (dSeq (dFor (dItR1 (dCons (dVar 3) dNil)) (dName 8) (B_closed_bounds_4 c)) u)))) [.str kd, .lst (fs.map (factD c P xs)), .lst (xs.map .str)] m =
      dFn 12 (fun _ _ => u [some (.str kd), some (.lst (fs.map (factD c P xs))), some (.lst (xs.map .str)), some (.int ((n + 1 : Nat) : Int)), some (locsT m.length (n + 1)), y5, y6, y7, y8, y9, y10, none] (m ++ rowsT c P (n + 1) (closeT kd n fs))) [.str kd, .lst (fs.map (factD c P xs)), .lst (xs.map .str)] m ∧ BdT (s + 2300) (n + 1) (closeT kd n fs) := by
  have hz : sizeLine = 16777216 := rfl
  have z0 : ((0 : Int) : Rat) = Rat.divInt 0 P := (Rat.zero_divInt P).symm
  have bd0 : BdT s (n + 1) T0 := ⟨fun i j v _ _ e => by
    unfold T0 at e
    split at e
    · cases e; unfold Bi; exact Nat.two_pow_pos s
    · cases e⟩
  obtain ⟨N, hN⟩ : ∃ N : Int, N = ((n + 1 : Nat) : Int) := ⟨_, rfl⟩
  have N0 : 0 ≤ N := by omega
  have N1 : N ≤ 1000 := by omega
  have rgN : rngD 0 N.toNat = (List.range (n + 1)).map fun i : Nat => D.int i := by rw [hN, Int.toNat_natCast, rngD_map]
  have Ok : ∀ f ∈ fs, FOk s xs.length f := fun f h => by rw [hx]; exact hf f h
  have hM1 := cl_rows hm c P (n + 1) T0
  have hb := bnds_ok h1 hf kd
  have bo := bounds_of_ok c hP (s := s) (by omega) hP2 hM1 hn (by omega) Ok hl kd
  rw [hx] at bo
  obtain ⟨y5, y6, y7, lb, bd1⟩ := loopB_ok c hP bd0 (by omega) hP2 (m := m) hb (.int N) (some (.str kd)) (some (.lst (fs.map (factD c P xs)))) (some (.lst (xs.map .str))) none none none none none none none
  have cub : (n + 1) * (n + 1) * (n + 1) ≤ 13 * 13 * 13 := Nat.mul_le_mul (Nat.mul_le_mul (by omega) (by omega)) (by omega)
  obtain ⟨z5, z6, z8, z9, z10, l3, bd2⟩ := loop3_ok c hP hm bd1 (by omega) hP2 (by omega) hN (some (.str kd)) (some (.lst (fs.map (factD c P xs)))) (some (.lst (xs.map .str))) y5 y6 y7 none none none none
  unfold closeT
  refine ⟨z5, z6, y7, z8, z9, z10, ?_, bd2.mono (by omega)⟩
  have xl : (xs.map D.str).length = n := by rw [List.length_map, hx]
  have oc := outer_ok c P hm hx2 hN (some (.str kd)) (some (.lst (fs.map (factD c P xs)))) (some (.lst (xs.map .str))) none none none none none none
  rw [← hN]
  have lo : D.lst ((List.range (n + 1)).map fun k => .loc (m.length + k)) = locsT m.length (n + 1) := rfl
  obtain ⟨LL, hLL⟩ : ∃ x, ((List.range (n + 1)).map fun k => D.loc (m.length + k)) = x := ⟨_, rfl⟩
  rw [hLL] at oc lo
  rw [← lo] at lb l3 ⊢
  obtain ⟨FD, hFD⟩ : ∃ x, fs.map (factD c P xs) = x := ⟨_, rfl⟩
  obtain ⟨XD, hXD⟩ : ∃ x, xs.map D.str = x := ⟨_, rfl⟩
  obtain ⟨M1, hM1'⟩ : ∃ x, m ++ rowsT c P (n + 1) T0 = x := ⟨_, rfl⟩
  obtain ⟨M2, hM2⟩ : ∃ x, m ++ rowsT c P (n + 1) ((bnds kd n fs).foldl rlxB T0) = x := ⟨_, rfl⟩
  obtain ⟨M3, hM3⟩ : ∃ x, m ++ rowsT c P (n + 1) (rlx3 (n + 1) ((bnds kd n fs).foldl rlxB T0)) = x := ⟨_, rfl⟩
  obtain ⟨BD, hBD⟩ : ∃ x, (bnds kd n fs).map (bndD c P) = x := ⟨_, rfl⟩
  rw [hFD, hXD, hM1'] at oc bo
  rw [hBD] at bo lb
  rw [hFD, hXD, hM1', hM2] at lb
  rw [hFD, hXD, hM2, hM3] at l3
  rw [hXD] at xl
  rw [hFD, hXD, hM3]
  have xN : ((XD.length : Nat) : Int) + 1 = N := by omega
  have e0 : (env0 12 [D.str kd, .lst FD, .lst XD] : En) = [some (.str kd), some (.lst FD), some (.lst XD), none, none, none, none, none, none, none, none, none] := by simp [env0]
  have s3 : dSet 3 (dBin gAdd (dFun gLen (dCons (dVar 2) dNil)) (dC (.int 1))) [some (.str kd), some (.lst FD), some (.lst XD), none, none, none, none, none, none, none, none, none] m = .nx [some (.str kd), some (.lst FD), some (.lst XD), some (.int N), none, none, none, none, none, none, none, none] m := by
    simp [xN]
  have s4 : dSet 4 (dComp (dItR1 (dCons (dVar 3) dNil)) (dName 6) dYes (C_closed_bounds_2 c) [6]) [some (.str kd), some (.lst FD), some (.lst XD), some (.int N), none, none, none, none, none, none, none, none] m = .nx [some (.str kd), some (.lst FD), some (.lst XD), some (.int N), some (.lst LL), none, none, none, none, none, none, none] M1 := by
    rw [dSet_ap, dComp_ap, it_rng N N0 N1, rgN]
    obtain ⟨RG, hRG⟩ : ∃ x, ((List.range (n + 1)).map fun i : Nat => D.int i) = x := ⟨_, rfl⟩
    rw [hRG] at oc ⊢
    simp [wipeE, oc]
  have sB : dForS (dFun (padF 3 [] (F_bounds_of c)) (dCons (dVar 0) (dCons (dVar 1) (dCons (dVar 2) dNil)))) (dTupG 3 (dGcons (dName 6) (dGcons (dName 5) (dGcons (dName 7) dGnil)))) (B_closed_bounds_1 c) [some (.str kd), some (.lst FD), some (.lst XD), some (.int N), some (.lst LL), none, none, none, none, none, none, none] M1 = .nx [some (.str kd), some (.lst FD), some (.lst XD), some (.int N), some (.lst LL), y5, y6, y7, none, none, none, none] M2 := by
    have b3 : dFun (padF 3 [] (F_bounds_of c)) (dCons (dVar 0) (dCons (dVar 1) (dCons (dVar 2) dNil))) [some (.str kd), some (.lst FD), some (.lst XD), some (.int N), some (.lst LL), none, none, none, none, none, none, none] M1 = .ok (.lst BD) M1 := call3 bo
    exact forS_lst b3 lb
  rw [dFn_ap, dFn_ap, e0, dSeq_nx s3, dSeq_nx s4, dSeq_nx sB, dSeq_nx l3]
theorem diag_any (c : Cs) (hP : 0 < P) {s n : Nat} (hs : s < 4000) (hP2 : Bi s P) {T : Tb} (bd : BdT s n T) (hn : n ≤ 20) (dv : Nat → Int) (hd : ∀ i, i < n → T i i = some (dv i)) (hm : Cl m) (N : Int) (hN : N = n) (x0 x1 x2 x5 x6 x7 x8 x9 x10 x11 : Option D) :
    dTst (dFun gAny (dCons (dComp (dItR1 (dCons (dVar 3) dNil)) (dName 11) dYes (C_closed_bounds_3 c) [11]) dNil)) [x0, x1, x2, some (.int N), some (locsT m.length n), x5, x6, x7, x8, x9, x10, x11] (m ++ rowsT c P n T) = .ok (((List.range n).map fun i => decide (dv i < 0)).any id) (m ++ rowsT c P n T) := by
  have hz : sizeLine = 16777216 := rfl
  have z0 : ((0 : Int) : Rat) = Rat.divInt 0 P := (Rat.zero_divInt P).symm
  have hM := cl_rows hm c P n T
  have rgN : rngD 0 N.toNat = (List.range n).map fun i : Nat => D.int i := by rw [hN, Int.toNat_natCast, rngD_map]
  have cm : dCompL (dName 11) dYes (C_closed_bounds_3 c) [x0, x1, x2, some (.int N), some (locsT m.length n), x5, x6, x7, x8, x9, x10, none] ((List.range n).map fun i : Nat => D.int i) (m ++ rowsT c P n T) [] = .ok ((List.range n).map fun i => .bl (decide (dv i < 0))) (m ++ rowsT c P n T) := by
    rw [compL_of (F := fun i : Nat => D.int i) (f := fun i => D.bl (decide (dv i < 0))) (p := fun _ => true) (List.range n) [] (fun i hi => ⟨[x0, x1, x2, some (.int N), some (locsT m.length n), x5, x6, x7, x8, x9, x10, some (.int ((i : Nat) : Int))], by simp, by simp, fun _ => by
      have hi := List.mem_range.mp hi
      have g1 := gIx_tab (k := m.length) hi (m ++ rowsT c P n T)
      have r1 := rows_at c P T m hi
      have g2 := gIx_loc r1 (row_at c P T i hi)
      rw [hd i hi] at g2
      have g2 : gIx (.loc (m.length + i)) (.int ((i : Nat) : Int)) (m ++ rowsT c P n T) = .ok (rat c (Rat.divInt (dv i) P)) (m ++ rowsT c P n T) := g2
      have r := rmk1 c (a := 0) (k := 5) hM
      rw [z0] at r
      have bv := bd.b i i (dv i) hi hi (hd i hi)
      have b0 : Bi s 0 := by unfold Bi; exact Nat.two_pow_pos s
      have bl := below_ok c (Sz.di bv hP2 (by omega)) (Sz.di b0 hP2 (by omega)) (m := m ++ rowsT c P n T) (by omega)
      have dl : decide (Rat.divInt (dv i) P < Rat.divInt 0 P) = decide (dv i < 0) := decide_eq_decide.mpr (di_lt hP)
      rw [dl] at bl
      have iV := insOf_rat (m ++ rowsT c P n T) c (Rat.divInt (dv i) P)
      obtain ⟨M, hMM⟩ : ∃ x, m ++ rowsT c P n T = x := ⟨_, rfl⟩
      obtain ⟨V, hV⟩ : ∃ x, rat c (Rat.divInt (dv i) P) = x := ⟨_, rfl⟩
      obtain ⟨Z, hZ⟩ : ∃ x, rat c (Rat.divInt 0 P) = x := ⟨_, rfl⟩
      rw [hMM, hV] at g2 iV bl
      rw [hMM, hZ] at r
      rw [hZ] at bl
      rw [hMM] at g1
      obtain ⟨TAB, hTAB⟩ : ∃ x, locsT m.length n = x := ⟨_, rfl⟩
      rw [hTAB] at g1
      rw [hTAB, hMM]
      obtain ⟨L, hL⟩ : ∃ x, m.length + i = x := ⟨_, rfl⟩
      rw [hL] at g1 g2
      obtain ⟨I, hI⟩ : ∃ x : Int, ((i : Nat) : Int) = x := ⟨_, rfl⟩
      rw [hI] at g1 g2 ⊢
      simp [C_closed_bounds_3_ap, g1, g2, dMeth, methAt, iV, r, bl]⟩) (by simp [hz]; omega), filt_true, List.nil_append]
  have tb := toBs_ints (fun i : Nat => decide (dv i < 0)) (List.range n)
  have it := it_rng N (by omega) (by omega) x0 x1 x2 (some (locsT m.length n)) x5 x6 x7 x8 x9 x10 x11 (m ++ rowsT c P n T)
  rw [rgN] at it
  obtain ⟨RG, hRG⟩ : ∃ x, ((List.range n).map fun i : Nat => D.int i) = x := ⟨_, rfl⟩
  obtain ⟨BL, hBL⟩ : ∃ x, ((List.range n).map fun i => D.bl (decide (dv i < 0))) = x := ⟨_, rfl⟩
  obtain ⟨M, hMM⟩ : ∃ x, m ++ rowsT c P n T = x := ⟨_, rfl⟩
  obtain ⟨TAB, hTAB⟩ : ∃ x, locsT m.length n = x := ⟨_, rfl⟩
  rw [hRG, hBL, hMM, hTAB] at cm
  rw [hBL] at tb
  rw [hRG, hMM, hTAB] at it
  rw [hMM, hTAB]
  obtain ⟨BB, hBB⟩ : ∃ x, ((List.range n).map fun i => decide (dv i < 0)) = x := ⟨_, rfl⟩
  rw [hBB] at tb ⊢
  have ga : gAny [.lst BL] M = .ok (.bl (BB.any id)) M := by simp [gAny, seqL, tb]
  have dc : dComp (dItR1 (dCons (dVar 3) dNil)) (dName 11) dYes (C_closed_bounds_3 c) [11] [x0, x1, x2, some (.int N), some TAB, x5, x6, x7, x8, x9, x10, x11] M = .ok (.lst BL) M := by
    rw [dComp_ap, it]
    simp [wipeE, cm]
  simp [-dComp_ap, dc, -gAny_ap, ga]
theorem closed_ok (c : Cs) (hP : 0 < P) (hs : s + 2300 < 4000) (h1 : 1 ≤ s) (hP2 : Bi s P) (hm : Cl m) (hn : xs.Nodup) {n : Nat} (hx : xs.length = n) (hx2 : n ≤ 12) {fs : List Fct} (hf : ∀ f ∈ fs, FOk s n f) (hl : fs.length ≤ 1000) (kd : Str) (hpos : ∀ i v, i < n + 1 → closeT kd n fs i i = some v → 0 ≤ v) :
    F_closed_bounds c [.str kd, .lst (fs.map (factD c P xs)), .lst (xs.map .str)] m = .ok (tabD c P (n + 1) (closeT kd n fs)) m := by
  unfold F_closed_bounds
  rw [dZapN_eq]
  obtain ⟨y5, y6, y7, y8, y9, y10, h, bd⟩ := closed_run c hP hs h1 hP2 hm hn hx hx2 hf hl kd _
  rw [h]
  have ft := frz_tab c P (n := n + 1) (by omega) (closeT kd n fs) m
  have an := diag_any c hP (s := s + 2300) (by omega) (hP2.mono (by omega)) bd (by omega) (fun i => (closeT kd n fs i i).getD 0) (fun i _ => by obtain ⟨v, hv⟩ := close_diag kd n fs i; rw [hv]; rfl) hm ((n + 1 : Nat) : Int) rfl (some (.str kd)) (some (.lst (fs.map (factD c P xs)))) (some (.lst (xs.map .str))) y5 y6 y7 y8 y9 y10 none
  have fl : (((List.range (n + 1)).map fun i => decide ((closeT kd n fs i i).getD 0 < 0)).any id) = false := by
    rw [List.any_eq_false]
    intro b hb
    obtain ⟨i, hi, rfl⟩ := List.mem_map.mp hb
    obtain ⟨v, hv⟩ := close_diag kd n fs i
    have := hpos i v (List.mem_range.mp hi) hv
    rw [hv]
    simp; omega
  rw [fl] at an
  obtain ⟨FD, hFD⟩ : ∃ x, fs.map (factD c P xs) = x := ⟨_, rfl⟩
  obtain ⟨XD, hXD⟩ : ∃ x, xs.map D.str = x := ⟨_, rfl⟩
  have tk : (m ++ rowsT c P (n + 1) (closeT kd n fs)).take m.length = m := by simp
  obtain ⟨M, hMM⟩ : ∃ x, m ++ rowsT c P (n + 1) (closeT kd n fs) = x := ⟨_, rfl⟩
  obtain ⟨TAB, hTAB⟩ : ∃ x, locsT m.length (n + 1) = x := ⟨_, rfl⟩
  obtain ⟨TD, hTD⟩ : ∃ x, tabD c P (n + 1) (closeT kd n fs) = x := ⟨_, rfl⟩
  obtain ⟨N, hN⟩ : ∃ x : Int, ((n + 1 : Nat) : Int) = x := ⟨_, rfl⟩
  rw [hFD, hXD, hMM, hTAB, hN] at an
  rw [hMM, hTAB, hTD] at ft
  rw [hMM] at tk
  rw [hFD, hXD, hMM, hTAB, hTD, hN]
  obtain ⟨TS, hTS⟩ : ∃ t, dTst (dFun gAny (dCons (dComp (dItR1 (dCons (dVar 3) dNil)) (dName 11) dYes (C_closed_bounds_3 c) [11]) dNil)) = t := ⟨_, rfl⟩
  rw [hTS] at an ⊢
  have fin : ∀ (w : DS), dFn 12 (fun _ _ => dSeq (dIfS TS w dSkip) (dRet (dVar 4)) [some (.str kd), some (.lst FD), some (.lst XD), some (.int N), some TAB, y5, y6, y7, y8, y9, y10, none] M) [.str kd, .lst FD, .lst XD] m = .ok TAB M := fun w => by
    rw [dFn_ap]
    simp [an]
  rw [fin]
  unfold zapRN
  dsimp only
  rw [tk, if_pos ⟨hm, rfl⟩, ft]
end
end W
set_option maxHeartbeats 8000000
namespace W
open PySem PySem.Spec L2 DL
section
variable {P : Int} {s n : Nat} {m : Mu} {xs : List Str}
theorem bound_ok (c : Cs) (P : Int) (v : Option Int) (x0 x1 x2 x3 x4 x5 : Option D) (M : Mu) : C_is_fact_2 c [x0, x1, x2, x3, x4, x5, some (oD c P v)] M = .ok (.bl true) M := by
  rw [C_is_fact_2_ap]
  cases v with
  | none => show dOr _ _ [x0, x1, x2, x3, x4, x5, some .non] M = _; simp
  | some q =>
    have e := isratio_ok c (Rat.divInt q P) M
    have n1 : gIsN (rat c (Rat.divInt q P)) .non M = .ok (.bl false) M := rfl
    show dOr _ _ [x0, x1, x2, x3, x4, x5, some (rat c (Rat.divInt q P))] M = _
    obtain ⟨Q, hQ⟩ : ∃ x, rat c (Rat.divInt q P) = x := ⟨_, rfl⟩
    rw [hQ] at e n1 ⊢
    simp [-gIsN_ap, n1, e]
theorem held_ok (c : Cs) {x : Str} (hx : x ∈ xs) (x0 x2 x4 x5 x6 : Option D) (M : Mu) : C_is_fact_1 c [x0, some (.lst (xs.map .str)), x2, some (.str x), x4, x5, x6] M = .ok (.bl true) M := by
  have g := gIn_strs x xs M
  rw [decide_eq_true hx] at g
  obtain ⟨XD, hXD⟩ : ∃ x, xs.map D.str = x := ⟨_, rfl⟩
  rw [hXD] at g ⊢
  simp [C_is_fact_1_ap, ans_str__Ratio, tagOf, Ans.get, primNames, -orD_ap, g]
theorem order_ok (c : Cs) (hP : 0 < P) (hs : s < 4000) (hP2 : Bi s P) {lo hi : Option Int} (hlo : ∀ v, lo = some v → Bi s v) (hhi : ∀ v, hi = some v → Bi s v) (h : ∀ l h, lo = some l → hi = some h → l ≤ h) (x0 x1 x2 x3 x6 : Option D) (M : Mu) :
    (dOr (dBin gIsN (dVar 4) (dC .non)) (dOr (dBin gIsN (dVar 5) (dC .non)) (dNotO [] (dMeth [(c.kRatio, padF 2 [] (F_Ratio_is_below c))] (dVar 5) (dCons (dVar 4) dNil))))) [x0, x1, x2, x3, some (oD c P lo), some (oD c P hi), x6] M = .ok (.bl true) M := by
  have niN : gIsN .non .non M = .ok (.bl true) M := rfl
  have niR : ∀ q, gIsN (rat c q) .non M = .ok (.bl false) M := fun _ => rfl
  cases lo with
  | none => show dOr _ _ [x0, x1, x2, x3, some .non, some (oD c P hi), x6] M = _; simp [-gIsN_ap, niN]
  | some l =>
    cases hi with
    | none =>
      have n1 := niR (Rat.divInt l P)
      show dOr _ _ [x0, x1, x2, x3, some (rat c (Rat.divInt l P)), some .non, x6] M = _
      obtain ⟨Q, hQ⟩ : ∃ x, rat c (Rat.divInt l P) = x := ⟨_, rfl⟩
      rw [hQ] at n1 ⊢
      simp [-gIsN_ap, niN, n1]
    | some v =>
      have n1 := niR (Rat.divInt l P)
      have n2 := niR (Rat.divInt v P)
      have bl := below_ok c (Sz.di (hhi v rfl) hP2 (by omega)) (Sz.di (hlo l rfl) hP2 (by omega)) (m := M) (by omega)
      have le := h l v rfl rfl
      rw [show decide (Rat.divInt v P < Rat.divInt l P) = false from decide_eq_false (by rw [di_lt hP]; omega)] at bl
      have iV := insOf_rat M c (Rat.divInt v P)
      show dOr _ _ [x0, x1, x2, x3, some (rat c (Rat.divInt l P)), some (rat c (Rat.divInt v P)), x6] M = _
      obtain ⟨Q, hQ⟩ : ∃ x, rat c (Rat.divInt l P) = x := ⟨_, rfl⟩
      obtain ⟨V, hV⟩ : ∃ x, rat c (Rat.divInt v P) = x := ⟨_, rfl⟩
      rw [hQ] at n1 bl ⊢
      rw [hV] at n2 bl iV ⊢
      simp [-gIsN_ap, n1, n2, dMeth, methAt, iV, bl]
theorem str_eqF {x y : Str} {m : Mu} (h : x ≠ y) (rows : List (Kl × DFn × List Tg)) (X : D2) : orD (orD (dOwnEq false rows) gEq) X (.str x) (.str y) m = .ok (.bl false) m := by
  have e : insOf m (.str x) = none := rfl
  simp [orD, dOwnEq, e, gEqS, scEq, h]
theorem getD_mem {a : Nat} (h : a < xs.length) : xs.getD a Str.empty ∈ xs := List.mem_of_getElem? (at_getD h)
theorem is_fact_ok (c : Cs) (hP : 0 < P) (hs : s < 4000) (hP2 : Bi s P) (hn : xs.Nodup) {f : Fct} (hf : FOk s xs.length f) (M : Mu) : F_is_fact c [factD c P xs f, .lst (xs.map .str)] M = .ok (.bl true) M := by
  have hz : sizeLine = 16777216 := rfl
  have gk : gNotIn (.str f.kd) (.tup [.str "out", .str "back"]) M = .ok (.bl false) M := by
    have ne : ¬ ("out" : Str) = "back" := by decide +kernel
    rcases hf.kd with e | e <;> rw [e] <;> rfl
  have or_ok := order_ok c hP hs hP2 hf.lo hf.hi hf.ord
  have bd := bound_ok c P
  rcases hf.hs with ⟨a, e, ha⟩ | ⟨a, b, e, ha, hb, hab⟩
  · have fd : factD c P xs f = .tup [.str f.kd, .str (xs.getD a Str.empty), oD c P f.lo, oD c P f.hi] := by unfold factD; rw [e]; rfl
    have h1 := held_ok c (getD_mem ha)
    have o1 := or_ok
    have b1 := bd f.lo
    have b2 := bd f.hi
    rw [fd]
    obtain ⟨NA, hNA⟩ : ∃ x, xs.getD a Str.empty = x := ⟨_, rfl⟩
    obtain ⟨LO, hLO⟩ : ∃ x, oD c P f.lo = x := ⟨_, rfl⟩
    obtain ⟨HI, hHI⟩ : ∃ x, oD c P f.hi = x := ⟨_, rfl⟩
    obtain ⟨XD, hXD⟩ : ∃ x, xs.map D.str = x := ⟨_, rfl⟩
    rw [hNA, hXD] at h1
    rw [hLO] at b1 o1
    rw [hHI] at b2 o1
    rw [hNA, hLO, hHI, hXD]
    have g4 : gNotIn (.int 4) (.tup [.int 4, .int 5]) M = .ok (.bl false) M := rfl
    have i0 : gIx (.tup [.str f.kd, .str NA, LO, HI]) (.int 0) M = .ok (.str f.kd) M := rfl
    have m1 := ix_m1_4 (.str f.kd) (.str NA) LO HI M
    have m2 := ix_m2_4 (.str f.kd) (.str NA) LO HI M
    obtain ⟨FT, hFT⟩ : ∃ x, D.tup [.str f.kd, .str NA, LO, HI] = x := ⟨_, rfl⟩
    have ct := cut14 (.str f.kd) (.str NA) LO HI
    have tg : tagOf M (.tup [.str f.kd, .str NA, LO, HI]) = some (.prim "tuple") := rfl
    simp [F_is_fact, env0, ans_tuple, ans_str__Ratio, tagOf, Ans.get, primNames, -orD_ap, -dOr_ap, g4, i0, gk, ct, h1, wipeE, hz, m1, m2, b1, b2, o1, toBs]
  · have fd : factD c P xs f = .tup [.str f.kd, .str (xs.getD a Str.empty), .str (xs.getD b Str.empty), oD c P f.lo, oD c P f.hi] := by unfold factD; rw [e]; rfl
    have h1 := held_ok c (getD_mem ha)
    have h2 := held_ok c (getD_mem hb)
    have o1 := or_ok
    have b1 := bd f.lo
    have b2 := bd f.hi
    have ne : xs.getD a Str.empty ≠ xs.getD b Str.empty := fun z => hab (by
      have e1 := at_getD ha
      have e2 := at_getD hb
      rw [z, ← e2] at e1
      obtain ⟨k1, k2⟩ := List.getElem?_eq_some_iff.mp (e1.trans e2)
      rw [← k2] at e2
      obtain ⟨_, k3⟩ := List.getElem?_eq_some_iff.mp e2
      exact (List.getElem_inj hn).mp k3.symm)
    have sE := str_eqF (m := M) ne
    rw [fd]
    obtain ⟨NA, hNA⟩ : ∃ x, xs.getD a Str.empty = x := ⟨_, rfl⟩
    obtain ⟨NB, hNB⟩ : ∃ x, xs.getD b Str.empty = x := ⟨_, rfl⟩
    obtain ⟨LO, hLO⟩ : ∃ x, oD c P f.lo = x := ⟨_, rfl⟩
    obtain ⟨HI, hHI⟩ : ∃ x, oD c P f.hi = x := ⟨_, rfl⟩
    obtain ⟨XD, hXD⟩ : ∃ x, xs.map D.str = x := ⟨_, rfl⟩
    rw [hNA, hXD] at h1
    rw [hNB, hXD] at h2
    rw [hNA, hNB] at sE
    rw [hLO] at b1 o1
    rw [hHI] at b2 o1
    rw [hNA, hNB, hLO, hHI, hXD]
    have g5 : gNotIn (.int 5) (.tup [.int 4, .int 5]) M = .ok (.bl false) M := rfl
    have i0 : gIx (.tup [.str f.kd, .str NA, .str NB, LO, HI]) (.int 0) M = .ok (.str f.kd) M := rfl
    have m1 := ix_m1_5 (.str f.kd) (.str NA) (.str NB) LO HI M
    have m2 := ix_m2_5 (.str f.kd) (.str NA) (.str NB) LO HI M
    have ct := cut15 (.str f.kd) (.str NA) (.str NB) LO HI
    simp [F_is_fact, env0, ans_tuple, ans_str__Ratio, tagOf, Ans.get, primNames, -orD_ap, -dOr_ap, g5, i0, gk, ct, h1, h2, wipeE, hz, m1, m2, b1, b2, o1, toBs, sE]
end
end W
set_option maxHeartbeats 8000000
namespace W
open PySem PySem.Spec L2 DL
abbrev Shr := Str × Int
def shD (c : Cs) (P : Int) (r : Shr) : D := .tup [.str r.1, rat c (Rat.divInt r.2 P)]
def svy (c : Cs) (P : Int) (shs : List Shr) (fs : List Fct) : D := .obj c.kSurvey [.tup (shs.map (shD c P)), .lst (fs.map (factD c P (shs.map (·.1)))), .dct ["out", "back"] [tabD c P (shs.length + 1) (closeT "out" shs.length fs), tabD c P (shs.length + 1) (closeT "back" shs.length fs)]]
structure ShOk (P : Int) (r : Shr) : Prop where
  nm : Good r.1
  s0 : 0 < r.2
  s1 : r.2 < P
theorem dFn_nx {n : Nat} {t : DS} {ds : List D} {m m1 : Mu} (h : ∃ e2, t (env0 n ds) m = .nx e2 m1 ∧ True) : dFn n t ds m = .ok .non m1 := by
  obtain ⟨e2, h, _⟩ := h
  rw [dFn_ap, h]
theorem tabD_below (c : Cs) (P : Int) (n k : Nat) (T : Tb) : below k (tabD c P n T) = true := by
  unfold tabD
  simp only [below]
  exact belows_F (fun i => by simp only [below]; exact rowT_below c P n T i k) _
theorem factD_below (c : Cs) (P : Int) (xs : List Str) (k : Nat) (f : Fct) : below k (factD c P xs f) = true := by
  unfold factD
  simp only [below, belows, Bool.true_and]
  have h1 : belows k (f.hs.map fun a => D.str (xs.getD a Str.empty)) = true := belows_F (fun _ => rfl) _
  have h2 := oD_below c P k f.lo
  have h3 := oD_below c P k f.hi
  have app : ∀ xs ys : List D, belows k xs = true → belows k ys = true → belows k (xs ++ ys) = true := fun xs ys a b => by
    induction xs with
    | nil => exact b
    | cons x xs ih =>
      simp only [belows, Bool.and_eq_true] at a
      simp only [List.cons_append, belows, Bool.and_eq_true]
      exact ⟨a.1, ih a.2⟩
  exact app _ _ h1 (by simp only [belows, h2, h3, Bool.and_self])
theorem shD_below (c : Cs) (P : Int) (k : Nat) (r : Shr) : below k (shD c P r) = true := by
  unfold shD
  simp only [below, belows, Bool.true_and, Bool.and_true]
  rfl
section
variable {P : Int} {s : Nat} {m : Mu} {shs : List Shr} {fs : List Fct}
theorem names_loop (c : Cs) {ys : List Str} (h : ∀ y ∈ ys, Good y) (M : Mu) (x0 x1 x2 x3 x4 x5 x6 x7 x8 x9 : Option D) : ∃ y5, dLoop (dName 5) (B_SurveyD_initD_1 c) (ys.map .str) [x0, x1, x2, x3, x4, x5, x6, x7, x8, x9] M = .nx [x0, x1, x2, x3, x4, y5, x6, x7, x8, x9] M := by
  obtain ⟨e2, m2, h1, ⟨y5, rfl⟩, rfl⟩ := loop_rel (g := dName 5) (b := B_SurveyD_initD_1 c) (F := D.str) (fun _ e M' => (∃ y5, e = [x0, x1, x2, x3, x4, y5, x6, x7, x8, x9]) ∧ M' = M) ys [] [x0, x1, x2, x3, x4, x5, x6, x7, x8, x9] M (fun pre a post hp e M' hI => by
    obtain ⟨⟨y5, rfl⟩, rfl⟩ := hI
    have ha : a ∈ ys := by rw [List.nil_append] at hp; rw [hp]; simp
    have n := name_ok c (h a ha) M'
    exact ⟨_, _, _, rfl, by simp [B_SurveyD_initD_1_ap, n]; rfl, ⟨_, rfl⟩, rfl⟩) ⟨⟨_, rfl⟩, rfl⟩
  exact ⟨y5, h1⟩
theorem shares_loop (c : Cs) (hP : 0 < P) (hs : s < 4000) (hP2 : Bi s P) {rs : List Shr} (h : ∀ r ∈ rs, ShOk P r) {M : Mu} (hM : Cl M) (x0 x1 x2 x3 x4 x5 x6 x7 x8 x9 : Option D) : ∃ y5 y6, dLoop (dTupG 2 (dGcons (dName 5) (dGcons (dName 6) dGnil))) (B_SurveyD_initD_2 c) (rs.map (shD c P)) [x0, x1, x2, x3, x4, x5, x6, x7, x8, x9] M = .nx [x0, x1, x2, x3, x4, y5, y6, x7, x8, x9] M := by
  obtain ⟨e2, m2, h1, ⟨y5, y6, rfl⟩, rfl⟩ := loop_rel (g := dTupG 2 (dGcons (dName 5) (dGcons (dName 6) dGnil))) (b := B_SurveyD_initD_2 c) (F := shD c P) (fun _ e M' => (∃ y5 y6, e = [x0, x1, x2, x3, x4, y5, y6, x7, x8, x9]) ∧ M' = M) rs [] [x0, x1, x2, x3, x4, x5, x6, x7, x8, x9] M (fun pre a post hp e M' hI => by
    obtain ⟨⟨y5, y6, rfl⟩, rfl⟩ := hI
    have ha : a ∈ rs := by rw [List.nil_append] at hp; rw [hp]; simp
    have O := h a ha
    have ba : Bi s a.2 := by have := O.s0; have := O.s1; unfold Bi at hP2 ⊢; omega
    have n := share_ok c (Sz.di ba hP2 (by omega)) (q_pos hP O.s0) (q_lt1 hP O.s1) hM (by omega)
    obtain ⟨Q, hQ⟩ : ∃ x, rat c (Rat.divInt a.2 P) = x := ⟨_, rfl⟩
    unfold shD
    rw [hQ] at n ⊢
    exact ⟨[x0, x1, x2, x3, x4, some (.str a.1), some Q, x7, x8, x9], [x0, x1, x2, x3, x4, some (.str a.1), some Q, x7, x8, x9], M', by simp, by simp [B_SurveyD_initD_2_ap, n], ⟨_, _, rfl⟩, rfl⟩) ⟨⟨_, _, rfl⟩, rfl⟩
  exact ⟨y5, y6, h1⟩
theorem dup_loop (c : Cs) {xs : List Str} (hn : xs.Nodup) (M : Mu) (x0 x1 x2 x3 x5 x6 x7 x8 x9 : Option D) : ∃ y5 y7, dLoop (dTupG 2 (dGcons (dName 7) (dGcons (dName 5) dGnil))) (B_SurveyD_initD_3 c) ((List.range (xs.map D.str).length).zipWith (fun k d => D.tup [.int (k : Nat), d]) (xs.map .str)) [x0, x1, x2, x3, some (.lst (xs.map .str)), x5, x6, x7, x8, x9] M = .nx [x0, x1, x2, x3, some (.lst (xs.map .str)), y5, x6, y7, x8, x9] M := by
  obtain ⟨e2, m2, h3, ⟨y5, y7, rfl⟩, rfl⟩ := dLoop_inv (g := dTupG 2 (dGcons (dName 7) (dGcons (dName 5) dGnil))) (b := B_SurveyD_initD_3 c) (fun e m' => (∃ y5 y7, e = [x0, x1, x2, x3, some (.lst (xs.map .str)), y5, x6, y7, x8, x9]) ∧ m' = M) ((List.range (xs.map D.str).length).zipWith (fun k d => D.tup [.int (k : Nat), d]) (xs.map .str)) [x0, x1, x2, x3, some (.lst (xs.map .str)), x5, x6, x7, x8, x9] M (fun d hd e m' hi => by
    obtain ⟨⟨y5, y7, rfl⟩, rfl⟩ := hi
    obtain ⟨k, hk⟩ := List.mem_iff_getElem?.mp hd
    obtain ⟨x, hx, rfl⟩ := enum_get _ _ _ hk
    rw [List.getElem?_map] at hx
    cases hq : xs[k]? with
    | none => rw [hq] at hx; cases hx
    | some y =>
      rw [hq] at hx
      cases hx
      obtain ⟨hk1, hk2⟩ := List.getElem?_eq_some_iff.mp hq
      have hmem : ¬ y ∈ xs.take k := fun hm => by
        obtain ⟨j, hj1, hj2⟩ := List.getElem_of_mem hm
        rw [List.getElem_take] at hj2
        have hj3 : j < k := by rw [List.length_take] at hj1; omega
        have := (List.getElem_inj hn).mp (hj2.trans hk2.symm)
        omega
      have g1 := gIn_strs y (xs.take k) m'
      rw [List.map_take] at g1
      exact ⟨[x0, x1, x2, x3, some (.lst (xs.map .str)), some (.str y), x6, some (.int k), x8, x9], [x0, x1, x2, x3, some (.lst (xs.map .str)), some (.str y), x6, some (.int k), x8, x9], m', by simp, by simp [B_SurveyD_initD_3_ap, cutD_take, -orD_ap, g1, hmem], ⟨_, _, rfl⟩, rfl⟩) ⟨⟨_, _, rfl⟩, rfl⟩
  exact ⟨y5, y7, h3⟩
theorem facts_loop (c : Cs) (hP : 0 < P) (hs : s < 4000) (hP2 : Bi s P) {xs : List Str} (hn : xs.Nodup) (hf : ∀ f ∈ fs, FOk s xs.length f) (M : Mu) (x0 x1 x2 x3 x5 x6 x7 x8 x9 : Option D) : ∃ y7 y8, dLoop (dTupG 2 (dGcons (dName 7) (dGcons (dName 8) dGnil))) (B_SurveyD_initD_4 c) ((List.range (fs.map (factD c P xs)).length).zipWith (fun k d => D.tup [.int (k : Nat), d]) (fs.map (factD c P xs))) [x0, x1, x2, x3, some (.lst (xs.map .str)), x5, x6, x7, x8, x9] M = .nx [x0, x1, x2, x3, some (.lst (xs.map .str)), x5, x6, y7, y8, x9] M := by
  obtain ⟨e2, m2, h3, ⟨y7, y8, rfl⟩, rfl⟩ := dLoop_inv (g := dTupG 2 (dGcons (dName 7) (dGcons (dName 8) dGnil))) (b := B_SurveyD_initD_4 c) (fun e m' => (∃ y7 y8, e = [x0, x1, x2, x3, some (.lst (xs.map .str)), x5, x6, y7, y8, x9]) ∧ m' = M) ((List.range (fs.map (factD c P xs)).length).zipWith (fun k d => D.tup [.int (k : Nat), d]) (fs.map (factD c P xs))) [x0, x1, x2, x3, some (.lst (xs.map .str)), x5, x6, x7, x8, x9] M (fun d hd e m' hi => by
    obtain ⟨⟨y7, y8, rfl⟩, rfl⟩ := hi
    obtain ⟨k, hk⟩ := List.mem_iff_getElem?.mp hd
    obtain ⟨x, hx, rfl⟩ := enum_get _ _ _ hk
    obtain ⟨f, hfm, rfl⟩ := List.mem_map.mp (List.mem_of_getElem? hx)
    have fo := is_fact_ok c hP hs hP2 hn (hf f hfm) m'
    obtain ⟨XD, hXD⟩ : ∃ x, xs.map D.str = x := ⟨_, rfl⟩
    obtain ⟨FD, hFD⟩ : ∃ x, factD c P xs f = x := ⟨_, rfl⟩
    rw [hXD, hFD] at fo
    rw [hXD, hFD]
    exact ⟨[x0, x1, x2, x3, some (.lst XD), x5, x6, some (.int k), some FD, x9], [x0, x1, x2, x3, some (.lst XD), x5, x6, some (.int k), some FD, x9], m', by simp, by simp [B_SurveyD_initD_4_ap, fo], ⟨_, _, rfl⟩, rfl⟩) ⟨⟨_, _, rfl⟩, rfl⟩
  exact ⟨y7, y8, h3⟩
theorem sz0 : ([] : List D).length < sizeLine := by
  have hz : sizeLine = 16777216 := rfl
  simp [hz]
theorem sz1 (d : D) : ([] ++ [d]).length < sizeLine := by
  have hz : sizeLine = 16777216 := rfl
  simp [hz]
theorem call_gen {G : DFn} {n : Nat} {t : DA} {e : En} {m m1 m2 : Mu} {ds : List D} {r : D} (h1 : t e m = .ok ds m1) (hl : ds.length = n) (h : G ds m1 = .ok r m2) : dFun (padF n [] G) t e m = .ok r m2 := by
  simp [h1, hl, h]
theorem tab_dct (c : Cs) {x0 x3 x5 x6 x7 x8 : Option D} {SD FD XD : List D} {M : Mu} {TA TB : D} (t1 : F_closed_bounds c [.str "out", .lst FD, .lst XD] M = .ok TA M) (t2 : F_closed_bounds c [.str "back", .lst FD, .lst XD] M = .ok TB M) :
    dDctL (dName 9) dYes (dVar 9) (C_SurveyD_initD_2 c) [x0, some (.lst SD), some (.lst FD), x3, some (.lst XD), x5, x6, x7, x8, none] [.str "out", .str "back"] M [] [] = .ok (.dct ["out", "back"] [TA, TB]) M := by
  have ne : ¬ ("back" : Str) = "out" := by decide +kernel
  have c1 : C_SurveyD_initD_2 c [x0, some (.lst SD), some (.lst FD), x3, some (.lst XD), x5, x6, x7, x8, some (.str "out")] M = .ok TA M := by
    rw [C_SurveyD_initD_2_ap]
    exact call_gen (ds := [.str "out", .lst FD, .lst XD]) (by simp) rfl t1
  have c2 : C_SurveyD_initD_2 c [x0, some (.lst SD), some (.lst FD), x3, some (.lst XD), x5, x6, x7, x8, some (.str "back")] M = .ok TB M := by
    rw [C_SurveyD_initD_2_ap]
    exact call_gen (ds := [.str "back", .lst FD, .lst XD]) (by simp) rfl t2
  have s1 := dDctL_cons (g := dName 9) (c := dYes) (bk := dVar 9) (b := C_SurveyD_initD_2 c) (e := [x0, some (.lst SD), some (.lst FD), x3, some (.lst XD), x5, x6, x7, x8, none]) (d := .str "out") (ds := [.str "back"]) (m := M) (ks := []) (acc := []) (x := "out") (v := TA) (m1 := M) (m2 := M) (m3 := M) (e1 := [x0, some (.lst SD), some (.lst FD), x3, some (.lst XD), x5, x6, x7, x8, some (.str "out")]) (by simp) (by simp) (by simp) c1 (by simp) sz0
  have s2 := dDctL_cons (g := dName 9) (c := dYes) (bk := dVar 9) (b := C_SurveyD_initD_2 c) (e := [x0, some (.lst SD), some (.lst FD), x3, some (.lst XD), x5, x6, x7, x8, none]) (d := .str "back") (ds := []) (m := M) (ks := [] ++ [("out" : Str)]) (acc := [] ++ [TA]) (x := "back") (v := TB) (m1 := M) (m2 := M) (m3 := M) (e1 := [x0, some (.lst SD), some (.lst FD), x3, some (.lst XD), x5, x6, x7, x8, some (.str "back")]) (by simp) (by simp) (by simp) c2 (by simp [ne]) (sz1 _)
  rw [s1, s2, dDctL_nil]
  simp
theorem putF_of {Cs : List Addr} {f : Str} {tv to : DE} {e : En} {m m1 m2 : Mu} {v : D} {n : Nat} {C : Addr} {fs : List (Str × D)} (h1 : tv e m = .ok v m1) (h2 : to e m1 = .ok (.loc n) m2) (h3 : m2[n]? = some (.ins C fs)) (h4 : C ∈ Cs ∧ fs.length < 1000) : dPutF Cs f tv to e m = .nx e (m2.set n (.ins C (putD f v fs))) := by
  simp [h1, h2, h3, h4]
theorem dct_of {t : DA} {g : DG} {cc : DT} {bk b : DE} {own : List Nat} {e : En} {m m1 m2 : Mu} {ds : List D} {r : D} (h1 : t e m = .ok ds m1) (h2 : dDctL g cc bk b (wipeE e own) ds m1 [] [] = .ok r m2) : dDct t g cc bk b own e m = .ok r m2 := by
  rw [dDct_ap, h1]; exact h2
theorem survey_mk (c : Cs) (hP : 0 < P) (hs : s + 2300 < 4000) (h1 : 1 ≤ s) (hP2 : Bi s P) (hm : Cl m) (h0 : shs ≠ []) (hl : shs.length ≤ 12) (hn : (shs.map (·.1)).Nodup) (ok : ∀ r ∈ shs, ShOk P r) (hf : ∀ f ∈ fs, FOk s shs.length f) (hfl : fs.length ≤ 1000)
    (hpos : ∀ kd i v, kd = "out" ∨ kd = "back" → i < shs.length + 1 → closeT kd shs.length fs i i = some v → 0 ≤ v) :
    mkObj c.cSurvey m (F_SurveyD_initD c [.loc m.length, .lst (shs.map (shD c P)), .lst (fs.map (factD c P (shs.map (·.1))))] (m ++ [.ins c.cSurvey []])) = .ok (svy c P shs fs) m := by
  have hz : sizeLine = 16777216 := rfl
  obtain ⟨xs, hxs⟩ : ∃ xs, shs.map (·.1) = xs := ⟨_, rfl⟩
  have xl : xs.length = shs.length := by rw [← hxs, List.length_map]
  have k1 : (("own_shares" : Str) = "own_facts") = False := by simp; decide +kernel
  have k2 : (("own_shares" : Str) = "tables") = False := by simp; decide +kernel
  have k3 : (("own_facts" : Str) = "tables") = False := by simp; decide +kernel
  have hM0 : Cl (m ++ [.ins c.cSurvey []]) := hm.ins0 c.cSurvey
  have b1 : ∀ k, belows k (shs.map (shD c P)) = true := fun k => belows_F (fun r => shD_below c P k r) _
  have b2 : ∀ k, belows k (fs.map (factD c P xs)) = true := fun k => belows_F (fun f => factD_below c P xs k f) _
  have hM2 : Cl (m ++ [.ins c.cSurvey [("own_shares", .tup (shs.map (shD c P))), ("own_facts", .lst (fs.map (factD c P xs)))]]) := hm.snoc (by
    show belows _ _ = true
    simp only [List.map_cons, List.map_nil, belows, below, b1, b2, Bool.and_self])
  have Ok : ∀ f ∈ fs, FOk s xs.length f := fun f h => by rw [xl]; exact hf f h
  rw [hxs] at hn
  have ne : ("out" : Str) ≠ "back" := by decide +kernel
  have t1 := closed_ok c hP hs h1 hP2 hM2 hn xl (by omega) hf hfl "out" (fun i v => hpos "out" i v (.inl rfl))
  have t2 := closed_ok c hP hs h1 hP2 hM2 hn xl (by omega) hf hfl "back" (fun i v => hpos "back" i v (.inr rfl))
  have cm1 : ∀ (x0 x1 x2 x4 x5 x6 x7 x8 x9 : Option D) M, dCompL (dName 3) dYes (C_SurveyD_initD_1 c) [x0, x1, x2, none, x4, x5, x6, x7, x8, x9] (shs.map (shD c P)) M [] = .ok (shs.map fun _ => .bl true) M := fun x0 x1 x2 x4 x5 x6 x7 x8 x9 M => by
    rw [compL_of (F := shD c P) (f := fun _ => D.bl true) (p := fun _ => true) shs [] (fun r _ => ⟨[x0, x1, x2, some (shD c P r), x4, x5, x6, x7, x8, x9], by simp, by simp, fun _ => by
      obtain ⟨Q, hQ⟩ : ∃ x, rat c (Rat.divInt r.2 P) = x := ⟨_, rfl⟩
      unfold shD
      rw [hQ]
      simp [C_SurveyD_initD_1_ap, ans_tuple, tagOf, Ans.get, primNames]⟩) (by simp [hz]; omega), filt_true, List.nil_append]
  have cm2 : ∀ (x0 x1 x2 x3 x4 x7 x8 x9 : Option D) M, dCompL (dTupG 2 (dGcons (dName 5) (dGcons (dName 6) dGnil))) dYes (dVar 5) [x0, x1, x2, x3, x4, none, none, x7, x8, x9] (shs.map (shD c P)) M [] = .ok (xs.map .str) M := fun x0 x1 x2 x3 x4 x7 x8 x9 M => by
    rw [compL_of (F := shD c P) (f := fun r => D.str r.1) (p := fun _ => true) shs [] (fun r _ => ⟨[x0, x1, x2, x3, x4, some (.str r.1), some (rat c (Rat.divInt r.2 P)), x7, x8, x9], by
      obtain ⟨Q, hQ⟩ : ∃ x, rat c (Rat.divInt r.2 P) = x := ⟨_, rfl⟩
      unfold shD
      rw [hQ]
      simp, by simp, fun _ => by simp⟩) (by simp [hz]; omega), filt_true, List.nil_append, ← hxs, List.map_map]
    rfl
  have tb := toBs_ints (fun _ : Shr => true) shs
  have gd : ∀ y ∈ xs, Good y := fun y hy => by
    rw [← hxs] at hy
    obtain ⟨r, hr, rfl⟩ := List.mem_map.mp hy
    exact (ok r hr).nm
  have sl : (shs.map (shD c P)).length = shs.length := by rw [List.length_map]
  have fl : (fs.map (factD c P xs)).length = fs.length := by rw [List.length_map]
  have xdl : (xs.map D.str).length = shs.length := by rw [List.length_map, xl]
  have n0 : shs.length ≠ 0 := fun z => h0 (List.length_eq_zero_iff.mp z)
  have a0 : ∀ fs', (m ++ [Mo.ins c.cSurvey fs'])[m.length]? = some (.ins c.cSurvey fs') := fun _ => by simp
  have se : ∀ fs' gs', (m ++ [Mo.ins c.cSurvey fs']).set m.length (.ins c.cSurvey gs') = m ++ [Mo.ins c.cSurvey gs'] := fun _ _ => by simp
  have lp1 := names_loop c gd (m ++ [.ins c.cSurvey []])
  have lp2 := shares_loop c hP (s := s) (by omega) hP2 ok hM0
  have lp3 := dup_loop c hn (m ++ [.ins c.cSurvey []])
  have lp4 := facts_loop c hP (s := s) (by omega) hP2 hn Ok (m ++ [.ins c.cSurvey []])
  have bt1 := tabD_below c P (shs.length + 1) m.length (closeT "out" shs.length fs)
  have bt2 := tabD_below c P (shs.length + 1) m.length (closeT "back" shs.length fs)
  have b1 := b1 m.length
  have b2 := b2 m.length
  unfold svy
  rw [hxs]
  obtain ⟨TA, hTA⟩ : ∃ x, tabD c P (shs.length + 1) (closeT "out" shs.length fs) = x := ⟨_, rfl⟩
  obtain ⟨TB, hTB⟩ : ∃ x, tabD c P (shs.length + 1) (closeT "back" shs.length fs) = x := ⟨_, rfl⟩
  obtain ⟨SD, hSD⟩ : ∃ x, shs.map (shD c P) = x := ⟨_, rfl⟩
  obtain ⟨FD, hFD⟩ : ∃ x, fs.map (factD c P xs) = x := ⟨_, rfl⟩
  obtain ⟨XD, hXD⟩ : ∃ x, xs.map D.str = x := ⟨_, rfl⟩
  obtain ⟨BL, hBL⟩ : ∃ x, (shs.map fun _ => D.bl true) = x := ⟨_, rfl⟩
  obtain ⟨BB, hBB⟩ : ∃ x, (shs.map fun _ => true) = x := ⟨_, rfl⟩
  have hball : BB.all id = true := by rw [← hBB]; simp
  rw [hTA, hFD, hXD, hSD] at t1
  rw [hTB, hFD, hXD, hSD] at t2
  rw [hTA] at bt1
  rw [hTB] at bt2
  rw [hSD] at b1 sl
  rw [hFD] at b2 fl
  rw [hXD] at xdl lp1 
  simp only [hXD] at cm2
  simp only [hSD, hBL] at cm1
  simp only [hSD] at cm2
  rw [hSD] at lp2
  rw [hXD] at lp3
  rw [hFD, hXD] at lp4
  rw [hBL, hBB] at tb
  rw [hTA, hTB, hSD, hFD]
  obtain ⟨SL, hSL⟩ : ∃ x : Int, (SD.length : Int) = x := ⟨_, rfl⟩
  have SL0 : ¬ SL = 0 := by omega
  have slz : SD.length ≤ 16777216 := by omega
  have flz : FD.length ≤ 16777216 := by omega
  obtain ⟨XL, hXL⟩ : ∃ x : Int, (XD.length : Int) = x := ⟨_, rfl⟩
  have XL12 : ¬ 12 < XL := by omega
  have i : F_SurveyD_initD c [.loc m.length, .lst SD, .lst FD] (m ++ [.ins c.cSurvey []]) = .ok .non (m ++ [.ins c.cSurvey [("own_shares", .tup SD), ("own_facts", .lst FD), ("tables", .dct ["out", "back"] [TA, TB])]]) := by
    unfold F_SurveyD_initD
    refine dFn_nx ?_
    have e0 : (env0 10 [D.loc m.length, .lst SD, .lst FD] : En) = [some (.loc m.length), some (.lst SD), some (.lst FD), none, none, none, none, none, none, none] := by simp [env0]
    rw [e0]
    have il : ∀ ds M, F_is_list c [.lst ds] M = .ok (.bl true) M := fun ds M => by simp [F_is_list, env0, ans_list_tuple, tagOf, Ans.get, primNames]
    have gl : ∀ M, gLen [.lst SD] M = .ok (.int SL) M := fun M => by rw [← hSL]; simp
    have gx : ∀ M, gLen [.lst XD] M = .ok (.int XL) M := fun M => by rw [← hXL]; simp
    refine NXe (by (conv => lhs; simp [il, -gLen_ap, gl, SL0]) <;> rfl) ?_
    refine NXe (by (conv => lhs; simp [wipeE, cm1, tb, hball]) <;> rfl) ?_
    refine NXe (by (conv => lhs; simp [wipeE, cm2]) <;> rfl) ?_
    obtain ⟨p1, l1⟩ := lp1 (some (.loc m.length)) (some (.lst SD)) (some (.lst FD)) none (some (.lst XD)) none none none none none
    refine NXe (dFor_isT (by simp) l1) ?_
    obtain ⟨p2, p3, l2⟩ := lp2 (some (.loc m.length)) (some (.lst SD)) (some (.lst FD)) none (some (.lst XD)) p1 none none none none
    refine NXe (dFor_isT (by simp) l2) ?_
    refine NXe (by (conv => lhs; simp [-gLen_ap, gx, XL12]) <;> rfl) ?_
    obtain ⟨p4, p5, l3⟩ := lp3 (some (.loc m.length)) (some (.lst SD)) (some (.lst FD)) none p2 p3 none none none
    refine NXe (dFor_isT (by simp) l3) ?_
    refine NXe (by (conv => lhs; simp [il]) <;> rfl) ?_
    obtain ⟨p6, p7, l4⟩ := lp4 (some (.loc m.length)) (some (.lst SD)) (some (.lst FD)) none p4 p3 p5 none none
    refine NXe (dFor_isT (by simp) l4) ?_
    have gT : ∀ M, gTuple [.lst SD] M = .ok (.tup SD) M := fun M => by simp [gTuple, seqA, seqL]
    have gF : ∀ M, gList [.lst FD] M = .ok (.lst FD) M := fun M => by simp [gList, seqA, seqL]
    have se := fun fs' => se fs'
    refine NXe (by (conv => lhs; simp [gT, a0, se, putD, hz, slz]) <;> rfl) ?_
    refine NXe (by (conv => lhs; simp [-gList_ap, gF, a0, se, putD, hz, flz, k1]) <;> rfl) ?_
    have dd := fun (x0 x3 x5 x6 x7 x8 : Option D) => tab_dct c (x0 := x0) (x3 := x3) (x5 := x5) (x6 := x6) (x7 := x7) (x8 := x8) (SD := SD) t1 t2
    have pf := putF_of (Cs := [c.cSurvey]) (f := "tables") (C := c.cSurvey) (fs := [("own_shares", .tup SD), ("own_facts", .lst FD)]) (m2 := m ++ [.ins c.cSurvey [("own_shares", .tup SD), ("own_facts", .lst FD)]]) (dct_of (own := [9]) (e := [some (.loc m.length), some (.lst SD), some (.lst FD), none, some (.lst XD), p4, p3, p6, p7, none]) (m := m ++ [.ins c.cSurvey [("own_shares", .tup SD), ("own_facts", .lst FD)]]) (t := dItT (dC (.tup [.str "out", .str "back"]))) (by simp) (dd (some (.loc m.length)) none p4 p3 p6 p7)) (to := dVar 0) (by simp) (a0 _) (by simp)
    rw [se] at pf
    have pd : putD "tables" (D.dct ["out", "back"] [TA, TB]) ([("own_shares", D.tup SD), ("own_facts", D.lst FD)] : List (Str × D)) = ([("own_shares", D.tup SD), ("own_facts", D.lst FD), ("tables", D.dct ["out", "back"] [TA, TB])] : List (Str × D)) := by simp [putD, k2, k3]
    rw [pd] at pf
    exact ⟨_, pf, trivial⟩
  rw [i]
  simp [mkObj, hm, belows, below, b1, b2, bt1, bt2, nsSurvey]
end
end W
set_option maxHeartbeats 8000000
namespace W
open PySem PySem.Spec L2 DL
def Pot (tm : Nat → Int) (T : Tb) : Prop := ∀ i j v, T i j = some v → tm j - tm i ≤ v
theorem Pot.upd {tm : Nat → Int} {T : Tb} (h : Pot tm T) {i j : Nat} {v : Int} (hv : tm j - tm i ≤ v) : Pot tm (updT T i j v) := fun a b w e => by
  unfold updT at e
  split at e
  · rename_i k; cases e; rw [k.1, k.2]; exact hv
  · exact h a b w e
theorem Pot.rlx {tm : Nat → Int} {T : Tb} (h : Pot tm T) (k i j : Nat) : Pot tm (rlx T k i j) := by
  unfold W.rlx
  split
  · rename_i a b e1 e2
    have h1 := h i k a e1
    have h2 := h k j b e2
    have h3 : tm j - tm i ≤ a + b := by omega
    split
    · exact h.upd h3
    · split
      · exact h.upd h3
      · exact h
  · exact h
theorem Pot.rlxB {tm : Nat → Int} {T : Tb} (h : Pot tm T) {b : Bnd} (hb : tm b.2.1 - tm b.1 ≤ b.2.2) : Pot tm (rlxB T b) := by
  unfold W.rlxB
  split
  · exact h.upd hb
  · split
    · exact h.upd hb
    · exact h
theorem Pot.fold {α : Type} {tm : Nat → Int} {f : Tb → α → Tb} (hf : ∀ T a, Pot tm T → Pot tm (f T a)) : ∀ (l : List α) (T : Tb), Pot tm T → Pot tm (l.foldl f T)
  | [], _, h => h
  | a :: l, T, h => Pot.fold hf l (f T a) (hf T a h)
theorem Pot.rlx3 {tm : Nat → Int} {T : Tb} (h : Pot tm T) (n : Nat) : Pot tm (rlx3 n T) := Pot.fold (fun T k h => Pot.fold (fun T i h => Pot.fold (fun T j h => h.rlx k i j) _ T h) _ T h) _ T h
theorem Pot.foldB {tm : Nat → Int} : ∀ (l : List Bnd) (T : Tb), (∀ b ∈ l, tm b.2.1 - tm b.1 ≤ b.2.2) → Pot tm T → Pot tm (l.foldl W.rlxB T)
  | [], _, _, h => h
  | b :: l, T, hb, h => Pot.foldB l (W.rlxB T b) (fun x hx => hb x (by simp [hx])) (h.rlxB (hb b (by simp)))
theorem pot_T0 (tm : Nat → Int) : Pot tm T0 := fun i j v e => by
  unfold T0 at e
  split at e
  · rename_i k; cases e; rw [k]; omega
  · cases e
def FitF (tm : Nat → Int) (f : Fct) : Prop := (∀ v, f.lo = some v → v ≤ tm (spotF f).2 - tm (spotF f).1) ∧ ∀ v, f.hi = some v → tm (spotF f).2 - tm (spotF f).1 ≤ v
theorem fit_bnds {tm : Nat → Int} {n : Nat} {kd : Str} {fs : List Fct} (h0 : tm 0 = 0) (hn : ∀ i, 0 ≤ tm i) (hf : ∀ f ∈ fs, f.kd = kd → FitF tm f) : ∀ b ∈ bnds kd n fs, tm b.2.1 - tm b.1 ≤ b.2.2 := fun b hb => by
  rcases List.mem_append.mp hb with hb | hb
  · obtain ⟨i, _, rfl⟩ := List.mem_map.mp hb
    have := hn (i + 1)
    dsimp only
    omega
  · obtain ⟨f, hfm, hb⟩ := List.mem_flatMap.mp hb
    split at hb
    · rename_i hk
      obtain ⟨h1, h2⟩ := hf f hfm hk
      unfold bndF at hb
      rcases List.mem_append.mp hb with hb | hb
      · cases e : f.hi with
        | none => rw [e] at hb; cases hb
        | some v => rw [e] at hb; rw [List.mem_singleton.mp hb]; exact h2 v e
      · cases e : f.lo with
        | none => rw [e] at hb; cases hb
        | some v =>
          rw [e] at hb; rw [List.mem_singleton.mp hb]
          have := h1 v e
          dsimp only
          omega
    · cases hb
theorem pot_close {tm : Nat → Int} {n : Nat} {kd : Str} {fs : List Fct} (h0 : tm 0 = 0) (hn : ∀ i, 0 ≤ tm i) (hf : ∀ f ∈ fs, f.kd = kd → FitF tm f) : Pot tm (closeT kd n fs) := (Pot.foldB _ _ (fit_bnds h0 hn hf) (pot_T0 tm)).rlx3 _
theorem fit_pos {tm : Nat → Int} {n : Nat} {kd : Str} {fs : List Fct} (h0 : tm 0 = 0) (hn : ∀ i, 0 ≤ tm i) (hf : ∀ f ∈ fs, f.kd = kd → FitF tm f) (i : Nat) (v : Int) (e : closeT kd n fs i i = some v) : 0 ≤ v := by
  have := pot_close (n := n) h0 hn hf i i v e
  omega
def TM (ts : List (Int × Int)) (kd : Str) : Nat → Int
  | 0 => 0
  | k + 1 => if kd = "out" then (ts.getD k (0, 0)).1 else (ts.getD k (0, 0)).2
theorem TM_nn {ts : List (Int × Int)} (h : ∀ t ∈ ts, 0 ≤ t.1 ∧ 0 ≤ t.2) (kd : Str) : ∀ i, 0 ≤ TM ts kd i
  | 0 => Int.le_refl 0
  | k + 1 => by
    rw [show TM ts kd (k + 1) = if kd = "out" then (ts.getD k (0, 0)).1 else (ts.getD k (0, 0)).2 from rfl]
    have : 0 ≤ (ts.getD k (0, 0)).1 ∧ 0 ≤ (ts.getD k (0, 0)).2 := by
      by_cases hk : k < ts.length
      · rw [List.getD_eq_getElem?_getD, List.getElem?_eq_getElem hk]
        exact h _ (List.getElem_mem hk)
      · rw [List.getD_eq_getElem?_getD, List.getElem?_eq_none (by omega)]
        exact ⟨Int.le_refl 0, Int.le_refl 0⟩
    split
    · exact this.1
    · exact this.2
def optI : Option Int → D
  | none => .non
  | some k => .int k
def factL (xs : List Str) (f : Fct) : D := .tup [.str f.kd, .tup (f.hs.map fun a => .str (xs.getD a Str.empty)), optI f.lo, optI f.hi]
def timeD (t : Int × Int) : D := .tup [.int t.1, .int t.2]
theorem optI_below (k : Nat) (v : Option Int) : below k (optI v) = true := by cases v <;> rfl
theorem factL_below (xs : List Str) (k : Nat) (f : Fct) : below k (factL xs f) = true := by
  have h1 : belows k (f.hs.map fun a => D.str (xs.getD a Str.empty)) = true := belows_F (fun _ => rfl) _
  have h2 := optI_below k f.lo
  have h3 := optI_below k f.hi
  unfold factL
  simp only [below, belows, h1, h2, h3, Bool.and_self, Bool.true_and]
theorem loopS_step {g : DG} {b : DS} {n : Nat} {ds0 ds : List D} {d : D} {e e1 e2 : En} {m m2 : Mu} (h0 : m[n]? = some (.lst ds0)) (h1 : g d e = some e1) (h2 : b e1 m = .nx e2 m2) : dLoopS g b n ds0 (d :: ds) e m = dLoopS g b n ds0 ds e2 m2 := by
  conv => lhs; unfold dLoopS
  rw [if_pos h0, h1]
  dsimp only
  rw [h2]
theorem mixed_loopS (c : Cs) {α : Type} {F : α → D} {k : Nat} {ds0 : List D} (ys : List α) : ∀ (zs : List α) (m : Mu) (x1 x3 : Option D), m[k + 1]? = some (.lst ds0) → BagOk m → ys.length + zs.length ≤ 1000 →
    ∃ (zs' : List α) (m' : Mu) (x3' : Option D), dLoopS (dName 3) (B_w_mixed_1 c) (k + 1) ds0 (ys.map F) [some (.loc 0), x1, some (.loc m.length), x3] (m ++ [.lst (zs.map F)]) = .nx [some (.loc 0), x1, some (.loc m.length), x3'] (m' ++ [.lst (zs'.map F)]) ∧ zs'.Perm (zs ++ ys) ∧ Bgs m m' := by
  induction ys with
  | nil =>
    intro zs m x1 x3 hk hb _
    have hlt := (List.getElem?_eq_some_iff.mp hk).1
    refine ⟨zs, m, x3, ?_, by simp, hb.rfl'⟩
    rw [List.map_nil]
    unfold dLoopS
    rw [if_pos (by rw [List.getElem?_append_left hlt]; exact hk)]
  | cons y ys ih =>
    intro zs m x1 x3 hk hb hl
    have hlt := (List.getElem?_eq_some_iff.mp hk).1
    have hz : sizeLine = 16777216 := rfl
    simp at hl
    obtain ⟨i, m1, e1, i0, i1, g1⟩ := take_ok c (bag_app hb [.lst (zs.map F)]) (n := (zs.length : Int) + 1) (by omega) (by omega)
    obtain ⟨o, rfl, ho⟩ := g1.ex
    have hp := bag_pos hb
    have es : (m ++ [Mo.lst (zs.map F)]).set 0 o = m.set 0 o ++ [.lst (zs.map F)] := by rw [List.set_append_left _ _ hp]
    rw [es] at e1
    have g2 : Bgs m (m.set 0 o) := ⟨o, rfl, ho⟩
    have ml : (m.set 0 o).length = m.length := by simp
    obtain ⟨j, rfl⟩ := Int.eq_ofNat_of_zero_le i0
    obtain ⟨zs', m', x3', k1, k2, k3⟩ := ih (zs.take j ++ [y] ++ zs.drop j) (m.set 0 o) x1 (some (F y)) (by rw [g2.get]; exact hk) (g2.bag hb) (by simp; omega)
    refine ⟨zs', m', x3', ?_, ?_, g2.trans k3⟩
    · obtain ⟨M, hM⟩ : ∃ M, m.set 0 o = M := ⟨_, rfl⟩
      rw [hM] at e1 ml k1
      rw [ml] at k1
      have st : B_w_mixed_1 c [some (.loc 0), x1, some (.loc m.length), some (F y)] (m ++ [.lst (zs.map F)]) = .nx [some (.loc 0), x1, some (.loc m.length), some (F y)] (M ++ [.lst ((zs.take j ++ [y] ++ zs.drop j).map F)]) := by
        have h1 : (m ++ [Mo.lst (zs.map F)])[m.length]? = some (.lst (zs.map F)) := by simp
        have h2 : (M ++ [Mo.lst (zs.map F)])[m.length]? = some (.lst (zs.map F)) := by rw [← ml]; simp
        have h3 : ∀ X, (M ++ [Mo.lst (zs.map F)]).set m.length X = M ++ [X] := fun X => by rw [← ml]; simp
        have q : fInsert (zs.map F) [.int (j : Int), F y] = some ((zs.take j ++ [y] ++ zs.drop j).map F, .non) := insert_at F zs y (by omega) (by omega)
        have sl := seqL_at h1
        obtain ⟨Z, hZ⟩ : ∃ Z, zs.map F = Z := ⟨_, rfl⟩
        have zl : Z.length = zs.length := by rw [← hZ]; simp
        rw [hZ] at h1 h2 h3 q e1 sl ⊢
        obtain ⟨Z2, hZ2⟩ : ∃ Z, (zs.take j ++ [y] ++ zs.drop j).map F = Z := ⟨_, rfl⟩
        rw [hZ2] at q ⊢
        have h3 := h3 (.lst Z2)
        obtain ⟨A1, hA1⟩ : ∃ A, m ++ [Mo.lst Z] = A := ⟨_, rfl⟩
        obtain ⟨A2, hA2⟩ : ∃ A, M ++ [Mo.lst Z] = A := ⟨_, rfl⟩
        obtain ⟨A3, hA3⟩ : ∃ A, M ++ [Mo.lst Z2] = A := ⟨_, rfl⟩
        rw [hA1] at h1 e1 sl ⊢
        rw [hA2] at h2 e1 h3
        rw [hA3] at h3 ⊢
        obtain ⟨L, hL⟩ : ∃ A, m.length = A := ⟨_, rfl⟩
        rw [hL] at h1 h2 h3 sl ⊢
        clear hA1 hA2 hA3 hL hM k1 k2 k3 es
        have e1' : F_w_take c [.loc 0, .int ((Z.length : Int) + 1)] A1 = .ok (.int j) A2 := by rw [zl]; exact e1
        rw [B_w_mixed_1_ap]
        exact mixed_put c _ h1 h2 h3 (mixed_args c sl e1') q
      rw [List.map_cons]
      exact (loopS_step (by rw [List.getElem?_append_left hlt]; exact hk) (by simp) st).trans k1
    · refine k2.trans ?_
      have := (List.take_append_drop j zs).symm
      conv => rhs; rw [this]
      simp only [List.append_assoc]
      refine List.Perm.append_left _ ?_
      simp only [List.singleton_append]
      exact (List.perm_middle (a := y) (l₁ := zs.drop j) (l₂ := ys)).symm
theorem mixed_okS (c : Cs) {α : Type} {F : α → D} (hF : ∀ x n, below n (F x) = true) {ys : List α} (hl : ys.length ≤ 1000) {k : Nat} {m : Mu} (hk : m[k + 1]? = some (.lst (ys.map F))) (hb : BagOk m) (hm : Cl m) : ∃ (zs : List α) (m' : Mu), F_w_mixed c [.loc 0, .loc (k + 1)] m = .ok (.lst (zs.map F)) m' ∧ zs.Perm ys ∧ Bgs m m' := by
  have hz : sizeLine = 16777216 := rfl
  have hlt := (List.getElem?_eq_some_iff.mp hk).1
  obtain ⟨zs, m', x3, k1, k2, k3⟩ := mixed_loopS c (F := F) ys [] m (some (.loc (k + 1))) none hk hb (by simpa using hl)
  have cl := k3.cl hm
  have ml := k3.len
  refine ⟨zs, m', ?_, by simpa using k2, k3⟩
  have hbm : belows m.length (zs.map F) = true := belows_F (fun x => hF x _) zs
  have tk : (m' ++ [Mo.lst (zs.map F)]).take m.length = m' := by rw [← ml]; simp
  have gt : (m' ++ [Mo.lst (zs.map F)])[m.length]? = some (.lst (zs.map F)) := by rw [← ml]; simp
  have at1 : (m ++ [Mo.lst []])[k + 1]? = some (.lst (ys.map F)) := by rw [List.getElem?_append_left hlt]; exact hk
  simp only [List.map_nil] at k1
  obtain ⟨Z, hZ⟩ : ∃ Z, zs.map F = Z := ⟨_, rfl⟩
  rw [hZ] at k1 tk gt hbm ⊢
  obtain ⟨Y, hY⟩ : ∃ Z, ys.map F = Z := ⟨_, rfl⟩
  rw [hY] at k1 at1
  obtain ⟨K, hK⟩ : ∃ K, k + 1 = K := ⟨_, rfl⟩
  rw [hK] at k1 at1 ⊢
  simp [F_w_mixed, dZap, zapR, env0, hz, forS1, at1, k1, tk, gt, hbm, cl, ml]
end W
set_option maxHeartbeats 8000000
namespace W
open PySem PySem.Spec L2 DL
structure Drawn (n : Nat) (ts : List (Int × Int)) (f : Fct) : Prop where
  ok : FOk 20 n f
  fit : FitF (TM ts f.kd) f
structure TsOk (n : Nat) (ts : List (Int × Int)) : Prop where
  len : ts.length = n
  b : ∀ t ∈ ts, 0 ≤ t.1 ∧ t.1 ≤ 200 ∧ 0 ≤ t.2 ∧ t.2 ≤ 200
def kdW (w : Int) : Str := if w = 0 then "out" else "back"
def selW (w : Int) (t : Int × Int) : Int := if w = 0 then t.1 else t.2
theorem kd_ne : ("out" : Str) ≠ "back" := by decide +kernel
theorem TM_sel {n : Nat} {ts : List (Int × Int)} (h : TsOk n ts) {w : Int} (hw : w = 0 ∨ w = 1) {a : Nat} (ha : a < n) : TM ts (kdW w) (a + 1) = selW w (ts.getD a (0, 0)) := by
  rcases hw with rfl | rfl
  · rfl
  · show (if ("back" : Str) = "out" then (ts.getD a (0, 0)).1 else (ts.getD a (0, 0)).2) = _
    rw [if_neg (fun z => kd_ne z.symm)]; rfl
theorem sel_bd {n : Nat} {ts : List (Int × Int)} (h : TsOk n ts) (w : Int) {a : Nat} (ha : a < n) : 0 ≤ selW w (ts.getD a (0, 0)) ∧ selW w (ts.getD a (0, 0)) ≤ 200 := by
  have hl : a < ts.length := by rw [h.len]; exact ha
  have e : ts.getD a (0, 0) = ts[a] := by rw [List.getD_eq_getElem?_getD, List.getElem?_eq_getElem hl]; rfl
  have := h.b _ (List.getElem_mem hl)
  rw [e]
  unfold selW
  split <;> omega
theorem ix_time {n : Nat} {ts : List (Int × Int)} (h : TsOk n ts) {w : Int} (hw : w = 0 ∨ w = 1) {a : Nat} (ha : a < n) (M : Mu) : ∃ t, gIx (.lst (ts.map timeD)) (.int ((a : Nat) : Int)) M = .ok t M ∧ gIx t (.int w) M = .ok (.int (selW w (ts.getD a (0, 0)))) M := by
  have hl : a < ts.length := by rw [h.len]; exact ha
  have e : ts.getD a (0, 0) = ts[a] := by rw [List.getD_eq_getElem?_getD, List.getElem?_eq_getElem hl]; rfl
  refine ⟨_, gIx_at timeD (List.getElem?_eq_getElem hl) M, ?_⟩
  rw [e]
  rcases hw with rfl | rfl <;> rfl
theorem ix_kd {w : Int} (hw : w = 0 ∨ w = 1) (M : Mu) : gIx (.lst [.str "out", .str "back"]) (.int w) M = .ok (.str (kdW w)) M := by
  rcases hw with rfl | rfl <;> rfl
theorem ix_name {xs : List Str} {a : Nat} (ha : a < xs.length) (M : Mu) : gIx (.lst (xs.map .str)) (.int ((a : Nat) : Int)) M = .ok (.str (xs.getD a Str.empty)) M := gIx_at D.str (at_getD ha) M
theorem at_end (m : Mu) (T : Mo) : (m ++ [T])[m.length]? = some T := by simp
theorem set_end (m : Mu) (T U : Mo) : (m ++ [T]).set m.length U = m ++ [U] := by simp
theorem b20 {v : Int} (h1 : -1000 ≤ v) (h2 : v ≤ 1000) : Bi 20 v := Bi.lt (by omega) (by omega)
theorem wf1_ok (c : Cs) {xs : List Str} {ts : List (Int × Int)} (ht : TsOk xs.length ts) {m : Mu} (hb : BagOk m) {fs : List Fct} (hl : fs.length < 1000) {a : Nat} (ha : a < xs.length) {w : Int} (hw : w = 0 ∨ w = 1) (x2 x4 x8 x9 x10 x11 x12 x13 : Option D) :
    ∃ (fs' : List Fct) (m' : Mu) (y8 : Option D), B_w_facts_1 c [some (.loc 0), some (.lst (xs.map .str)), x2, some (.lst (ts.map timeD)), x4, some (.loc m.length), some (.int w), some (.int ((a : Nat) : Int)), x8, x9, x10, x11, x12, x13] (m ++ [.lst (fs.map (factL xs))]) = .nx [some (.loc 0), some (.lst (xs.map .str)), x2, some (.lst (ts.map timeD)), x4, some (.loc m.length), some (.int w), some (.int ((a : Nat) : Int)), y8, x9, x10, x11, x12, x13] (m' ++ [.lst (fs'.map (factL xs))]) ∧ Bgs m m' ∧ fs'.length ≤ fs.length + 1 ∧ ∀ f ∈ fs', f ∈ fs ∨ Drawn xs.length ts f := by
  have hz : sizeLine = 16777216 := rfl
  obtain ⟨v, m1, e1, v0, v1, g1⟩ := take_lit c (t := [.lst (fs.map (factL xs))]) hb 6 (by decide) (by decide)
  have b1 := g1.bag hb
  by_cases hv : 0 < v
  · obtain ⟨d1, m2, e2, p0, p1, g2⟩ := take_lit c (t := [.lst (fs.map (factL xs))]) b1 3 (by decide) (by decide)
    have b2 := g2.bag b1
    obtain ⟨d2, m3, e3, q0, q1, g3⟩ := take_lit c (t := [.lst (fs.map (factL xs))]) b2 3 (by decide) (by decide)
    obtain ⟨t, i1, i2⟩ := ix_time ht hw ha (m1 ++ [.lst (fs.map (factL xs))])
    obtain ⟨t0, t1⟩ := sel_bd ht w ha
    have tm := TM_sel ht hw ha
    have ik := ix_kd hw (m1 ++ [.lst (fs.map (factL xs))])
    have inm := ix_name ha (m1 ++ [.lst (fs.map (factL xs))])
    have l1 := g1.len
    have l3 : m3.length = m.length := by rw [g3.len, g2.len, g1.len]
    have a1 := at_end m1 (.lst (fs.map (factL xs)))
    have a3 := at_end m3 (.lst (fs.map (factL xs)))
    have se := fun U => set_end m3 (.lst (fs.map (factL xs))) U
    rw [l1] at a1
    rw [l3] at a3 se
    refine ⟨fs ++ [⟨kdW w, [a], some (selW w (ts.getD a (0, 0)) - d1), some (selW w (ts.getD a (0, 0)) + d2)⟩], m3, some (.int (selW w (ts.getD a (0, 0)))), ?_, (g1.trans g2).trans g3, by simp, fun f hf => ?_⟩
    · have em : (fs ++ [(⟨kdW w, [a], some (selW w (ts.getD a (0, 0)) - d1), some (selW w (ts.getD a (0, 0)) + d2)⟩ : Fct)]).map (factL xs) = fs.map (factL xs) ++ [.tup [.str (kdW w), .tup [.str (xs.getD a Str.empty)], .int (selW w (ts.getD a (0, 0)) - d1), .int (selW w (ts.getD a (0, 0)) + d2)]] := by rw [List.map_append]; rfl
      rw [em]
      have ap := app_lt (ds := fs.map (factL xs)) (x := .tup [.str (kdW w), .tup [.str (xs.getD a Str.empty)], .int (selW w (ts.getD a (0, 0)) - d1), .int (selW w (ts.getD a (0, 0)) + d2)]) (by rw [List.length_map]; omega)
      rw [← se]
      obtain ⟨TV, hTV⟩ : ∃ x, selW w (ts.getD a (0, 0)) = x := ⟨_, rfl⟩
      obtain ⟨NA, hNA⟩ : ∃ x, xs.getD a Str.empty = x := ⟨_, rfl⟩
      obtain ⟨KD, hKD⟩ : ∃ x, kdW w = x := ⟨_, rfl⟩
      obtain ⟨AI, hAI⟩ : ∃ x : Int, ((a : Nat) : Int) = x := ⟨_, rfl⟩
      obtain ⟨XD, hXD⟩ : ∃ x, xs.map D.str = x := ⟨_, rfl⟩
      obtain ⟨TD, hTD⟩ : ∃ x, ts.map timeD = x := ⟨_, rfl⟩
      obtain ⟨FD, hFD⟩ : ∃ x, fs.map (factL xs) = x := ⟨_, rfl⟩
      rw [hTV] at i2 ap ⊢
      rw [hKD] at ik ap ⊢
      rw [hNA] at inm ap ⊢
      rw [hAI] at i1 inm ⊢
      rw [hXD] at inm ⊢
      rw [hTD] at i1 ⊢
      rw [hFD] at e1 e2 e3 a1 a3 i1 i2 ik inm ap ⊢
      obtain ⟨M1, hM1⟩ : ∃ M, m1 ++ [Mo.lst FD] = M := ⟨_, rfl⟩
      obtain ⟨M3, hM3⟩ : ∃ M, m3 ++ [Mo.lst FD] = M := ⟨_, rfl⟩
      rw [hM1] at e1 e2 a1 i1 i2 ik inm
      rw [hM3] at e3 a3 ⊢
      obtain ⟨L, hL⟩ : ∃ x, m.length = x := ⟨_, rfl⟩
      rw [hL] at a1 a3 ⊢
      simp [B_w_facts_1_ap, e1, hv, i1, i2, a1, ik, inm, e2, e3, a3, ap, hz]
    · rcases List.mem_append.mp hf with hf | hf
      · exact .inl hf
      · right
        rw [List.mem_singleton.mp hf]
        refine ⟨⟨?_, .inl ⟨a, rfl, ha⟩, fun z hz => ?_, fun z hz => ?_, fun z y hz hy => ?_⟩, fun z hz => ?_, fun z hz => ?_⟩
        · unfold kdW; dsimp only; split
          · exact .inl rfl
          · exact .inr rfl
        · cases hz; exact b20 (by omega) (by omega)
        · cases hz; exact b20 (by omega) (by omega)
        · cases hz; cases hy; omega
        · cases hz
          show _ ≤ TM ts (kdW w) (a + 1) - TM ts (kdW w) 0
          rw [tm]; show _ ≤ _ - 0; omega
        · cases hz
          show TM ts (kdW w) (a + 1) - TM ts (kdW w) 0 ≤ _
          rw [tm]; show _ - 0 ≤ _; omega
  · refine ⟨fs, m1, x8, ?_, g1, by omega, fun f hf => .inl hf⟩
    obtain ⟨XD, hXD⟩ : ∃ x, xs.map D.str = x := ⟨_, rfl⟩
    obtain ⟨TD, hTD⟩ : ∃ x, ts.map timeD = x := ⟨_, rfl⟩
    rw [hXD, hTD]
    simp [B_w_facts_1_ap, e1, hv]
structure Jf (xs : List Str) (ts : List (Int × Int)) (m0 : Mu) (N : Nat) (M : Mu) : Prop where
  ex : ∃ (fs : List Fct) (m' : Mu), M = m' ++ [.lst (fs.map (factL xs))] ∧ Bgs m0 m' ∧ fs.length ≤ N ∧ ∀ f ∈ fs, Drawn xs.length ts f
theorem Jf.mono {xs : List Str} {ts : List (Int × Int)} {m0 : Mu} {N N' : Nat} {M : Mu} (h : Jf xs ts m0 N M) (k : N ≤ N') : Jf xs ts m0 N' M := by
  obtain ⟨fs, m', a, b, d, e⟩ := h.ex
  exact ⟨fs, m', a, b, by omega, e⟩
theorem wf2_ok (c : Cs) {xs : List Str} {ts : List (Int × Int)} (ht : TsOk xs.length ts) (hx : xs.length ≤ 30) {m0 : Mu} (hb : BagOk m0) {N : Nat} (hN : N ≤ 200) {M : Mu} (hM : Jf xs ts m0 N M) {w : Int} (hw : w = 0 ∨ w = 1) (x2 x4 x7 x8 x9 x10 x11 x12 x13 : Option D) :
    ∃ (M' : Mu) (y7 y8 : Option D), B_w_facts_2 c [some (.loc 0), some (.lst (xs.map .str)), x2, some (.lst (ts.map timeD)), x4, some (.loc m0.length), some (.int w), x7, x8, x9, x10, x11, x12, x13] M = .nx [some (.loc 0), some (.lst (xs.map .str)), x2, some (.lst (ts.map timeD)), x4, some (.loc m0.length), some (.int w), y7, y8, x9, x10, x11, x12, x13] M' ∧ Jf xs ts m0 (N + xs.length) M' := by
  obtain ⟨e2, M', h1, ⟨y7, y8, rfl⟩, h2⟩ := loop_rel (g := dName 7) (b := B_w_facts_1 c) (F := fun i : Nat => D.int i)
    (fun pre e M => (∃ y7 y8, e = [some (.loc 0), some (.lst (xs.map .str)), x2, some (.lst (ts.map timeD)), x4, some (.loc m0.length), some (.int w), y7, y8, x9, x10, x11, x12, x13]) ∧ Jf xs ts m0 (N + pre.length) M)
    (List.range xs.length) [] [some (.loc 0), some (.lst (xs.map .str)), x2, some (.lst (ts.map timeD)), x4, some (.loc m0.length), some (.int w), x7, x8, x9, x10, x11, x12, x13] M (fun pre a post hp e M hI => by
      obtain ⟨⟨y7, y8, rfl⟩, hJ⟩ := hI
      rw [List.nil_append] at hp
      have ha := rng_split hp
      have hpl := rng_pre hp
      obtain ⟨fs, m', rfl, g, l, d⟩ := hJ.ex
      have ml := g.len
      obtain ⟨fs', m2, z8, st, g2, l2, d2⟩ := wf1_ok c ht (g.bag hb) (fs := fs) (by omega) ha hw x2 x4 y8 x9 x10 x11 x12 x13
      rw [ml] at st
      refine ⟨_, _, _, rfl, st, ⟨_, _, rfl⟩, ⟨fs', m2, rfl, g.trans g2, by rw [List.length_append, List.length_singleton]; omega, fun f hf => ?_⟩⟩
      rcases d2 f hf with h | h
      · exact d f h
      · exact h)
    ⟨⟨_, _, rfl⟩, by simpa using hM⟩
  refine ⟨M', y7, y8, ?_, by simpa using h2⟩
  unfold B_w_facts_2
  obtain ⟨n, hn⟩ : ∃ n : Int, ((xs.length : Nat) : Int) = n := ⟨_, rfl⟩
  have rg : rngD 0 n.toNat = (List.range xs.length).map fun i : Nat => D.int i := by rw [← hn, Int.toNat_natCast, rngD_map]
  have xl : (xs.map D.str).length = xs.length := List.length_map ..
  rw [← rg] at h1
  obtain ⟨XD, hXD⟩ : ∃ x, xs.map D.str = x := ⟨_, rfl⟩
  rw [hXD] at h1 xl ⊢
  have xn : ((XD.length : Nat) : Int) = n := by rw [xl, hn]
  exact dFor_isT (dItR1_of (by simp [xn]) (by omega) (by omega)) h1
theorem one_lit (c : Cs) {m t : Mu} (hb : BagOk m) {ds : List D} (h0 : ds ≠ []) (hl : ds.length < 1000000) : ∃ d m', F_w_one c [.loc 0, .lst ds] (m ++ t) = .ok d (m' ++ t) ∧ d ∈ ds ∧ Bgs m m' := by
  obtain ⟨d, m1, e, h, g⟩ := one_ok c (bag_app hb t) h0 hl
  obtain ⟨b, rfl, g'⟩ := bgs_app hb g
  exact ⟨d, b, e, h, g'⟩
theorem opt3 {v : Int} {d : D} (h : d ∈ [D.int v, .int v, .non]) : ∃ o : Option Int, d = optI o ∧ ∀ z, o = some z → z = v := by
  simp only [List.mem_cons, List.not_mem_nil, or_false] at h
  rcases h with rfl | rfl | rfl
  · exact ⟨some v, rfl, fun z e => by cases e; rfl⟩
  · exact ⟨some v, rfl, fun z e => by cases e; rfl⟩
  · exact ⟨none, rfl, fun z e => by cases e⟩
theorem wf3_ok (c : Cs) {xs : List Str} {ts : List (Int × Int)} (ht : TsOk xs.length ts) (hx : 2 ≤ xs.length) (hx2 : xs.length ≤ 30) {m0 : Mu} (hb : BagOk m0) {N : Nat} (hN : N ≤ 200) {M : Mu} (hM : Jf xs ts m0 N M) (x2 x4 x6 x7 x8 x9 x10 x11 x12 x13 : Option D) :
    ∃ (M' : Mu) (y6 y8 y10 y11 y12 y13 : Option D), B_w_facts_3 c [some (.loc 0), some (.lst (xs.map .str)), x2, some (.lst (ts.map timeD)), x4, some (.loc m0.length), x6, x7, x8, x9, x10, x11, x12, x13] M = .nx [some (.loc 0), some (.lst (xs.map .str)), x2, some (.lst (ts.map timeD)), x4, some (.loc m0.length), y6, x7, y8, x9, y10, y11, y12, y13] M' ∧ Jf xs ts m0 (N + 1) M' := by
  have hz : sizeLine = 16777216 := rfl
  obtain ⟨fs, m, rfl, g, l, d⟩ := hM.ex
  have hb := g.bag hb
  have ml := g.len
  rw [← ml]
  obtain ⟨n, hn⟩ : ∃ n : Int, ((xs.length : Nat) : Int) = n := ⟨_, rfl⟩
  obtain ⟨w, m1, e1, w0, w1, g1⟩ := take_lit c (t := [.lst (fs.map (factL xs))]) hb 2 (by decide) (by decide)
  have hw : w = 0 ∨ w = 1 := by omega
  have b1 := g1.bag hb
  obtain ⟨a, m2, e2, a0, a1, g2⟩ := take_lit c (t := [.lst (fs.map (factL xs))]) b1 n (by omega) (by omega)
  have b2 := g2.bag b1
  obtain ⟨u, m3, e3, u0, u1, g3⟩ := take_lit c (t := [.lst (fs.map (factL xs))]) b2 (n - 1) (by omega) (by omega)
  have b3 := g3.bag b2
  obtain ⟨p, m4, e4, p0, p1, g4⟩ := take_lit c (t := [.lst (fs.map (factL xs))]) b3 2 (by decide) (by decide)
  have b4 := g4.bag b3
  obtain ⟨q, m5, e5, q0, q1, g5⟩ := take_lit c (t := [.lst (fs.map (factL xs))]) b4 2 (by decide) (by decide)
  have b5 := g5.bag b4
  obtain ⟨i, rfl⟩ := Int.eq_ofNat_of_zero_le a0
  have hi : i < xs.length := by omega
  -- the other one
  obtain ⟨j, hj⟩ : ∃ j : Nat, ((i : Int) + 1 + u) % n = j := Int.eq_ofNat_of_zero_le (Int.emod_nonneg _ (by omega))
  have hj2 : j < xs.length := by
    have := Int.emod_lt_of_pos ((i : Int) + 1 + u) (show 0 < n by omega)
    omega
  have hij : i ≠ j := fun z => by
    have h1 := Int.emod_add_mul_ediv ((i : Int) + 1 + u) n
    rw [hj, ← z] at h1
    have h2 : n * (((i : Int) + 1 + u) / n) = 1 + u := by omega
    have h3 : 0 < ((i : Int) + 1 + u) / n := by
      rcases Int.lt_or_le 0 (((i : Int) + 1 + u) / n) with h | h
      · exact h
      · have := Int.mul_nonneg (show 0 ≤ n by omega) (show 0 ≤ -(((i : Int) + 1 + u) / n) by omega)
        rw [Int.mul_neg] at this
        omega
    have h4 := Int.mul_le_mul_of_nonneg_left (show 1 ≤ ((i : Int) + 1 + u) / n by omega) (show 0 ≤ n by omega)
    rw [Int.mul_one] at h4
    omega
  obtain ⟨si0, si1⟩ := sel_bd ht w hi
  obtain ⟨sj0, sj1⟩ := sel_bd ht w hj2
  obtain ⟨o1, m6, e6, k6, g6⟩ := one_lit c (t := [.lst (fs.map (factL xs))]) b5 (ds := [.int (selW w (ts.getD j (0, 0)) - selW w (ts.getD i (0, 0)) - p), .int (selW w (ts.getD j (0, 0)) - selW w (ts.getD i (0, 0)) - p), .non]) (by simp) (by simp)
  have b6 := g6.bag b5
  obtain ⟨o2, m7, e7, k7, g7⟩ := one_lit c (t := [.lst (fs.map (factL xs))]) b6 (ds := [.int (selW w (ts.getD j (0, 0)) - selW w (ts.getD i (0, 0)) + q), .int (selW w (ts.getD j (0, 0)) - selW w (ts.getD i (0, 0)) + q), .non]) (by simp) (by simp)
  obtain ⟨lo, rfl, hlo⟩ := opt3 k6
  obtain ⟨hi', rfl, hhi⟩ := opt3 k7
  have gg := ((((((g1.trans g2).trans g3).trans g4).trans g5).trans g6).trans g7)
  have tmi := TM_sel ht hw hi
  have tmj := TM_sel ht hw hj2
  obtain ⟨t1, i1, i2⟩ := ix_time ht hw hj2 (m3 ++ [.lst (fs.map (factL xs))])
  obtain ⟨t2, i3, i4⟩ := ix_time ht hw hi (m3 ++ [.lst (fs.map (factL xs))])
  have ik := ix_kd hw (m5 ++ [.lst (fs.map (factL xs))])
  have n1 := ix_name hi (m5 ++ [.lst (fs.map (factL xs))])
  have n2 := ix_name hj2 (m5 ++ [.lst (fs.map (factL xs))])
  have l5 : m5.length = m.length := by rw [g5.len, g4.len, g3.len, g2.len, g1.len]
  have l7 : m7.length = m.length := gg.len
  have a5 := at_end m5 (.lst (fs.map (factL xs)))
  have a7 := at_end m7 (.lst (fs.map (factL xs)))
  have se := fun U => set_end m7 (.lst (fs.map (factL xs))) U
  rw [l5] at a5
  rw [l7] at a7 se
  refine ⟨m7 ++ [.lst ((fs ++ [(⟨kdW w, [i, j], lo, hi'⟩ : Fct)]).map (factL xs))], some (.int w), some (.int (selW w (ts.getD j (0, 0)) - selW w (ts.getD i (0, 0)))), some (.int ((i : Nat) : Int)), some (.int ((j : Nat) : Int)), some (.int (selW w (ts.getD j (0, 0)) - selW w (ts.getD i (0, 0)) - p)), some (.int (selW w (ts.getD j (0, 0)) - selW w (ts.getD i (0, 0)) + q)), ?_, ⟨fs ++ [⟨kdW w, [i, j], lo, hi'⟩], m7, rfl, g.trans gg, by simp; omega, fun f hf => ?_⟩⟩
  · have em : (fs ++ [(⟨kdW w, [i, j], lo, hi'⟩ : Fct)]).map (factL xs) = fs.map (factL xs) ++ [.tup [.str (kdW w), .tup [.str (xs.getD i Str.empty), .str (xs.getD j Str.empty)], optI lo, optI hi']] := by rw [List.map_append]; rfl
    rw [em]
    have ap := app_lt (ds := fs.map (factL xs)) (x := .tup [.str (kdW w), .tup [.str (xs.getD i Str.empty), .str (xs.getD j Str.empty)], optI lo, optI hi']) (by rw [List.length_map]; omega)
    rw [← se]
    have xl : (xs.map D.str).length = xs.length := List.length_map ..
    obtain ⟨TJ, hTJ⟩ : ∃ x, selW w (ts.getD j (0, 0)) = x := ⟨_, rfl⟩
    obtain ⟨TI, hTI⟩ : ∃ x, selW w (ts.getD i (0, 0)) = x := ⟨_, rfl⟩
    obtain ⟨NI, hNI⟩ : ∃ x, xs.getD i Str.empty = x := ⟨_, rfl⟩
    obtain ⟨NJ, hNJ⟩ : ∃ x, xs.getD j Str.empty = x := ⟨_, rfl⟩
    obtain ⟨KD, hKD⟩ : ∃ x, kdW w = x := ⟨_, rfl⟩
    obtain ⟨II, hII⟩ : ∃ x : Int, ((i : Nat) : Int) = x := ⟨_, rfl⟩
    obtain ⟨JI, hJI⟩ : ∃ x : Int, ((j : Nat) : Int) = x := ⟨_, rfl⟩
    obtain ⟨OL, hOL⟩ : ∃ x, optI lo = x := ⟨_, rfl⟩
    obtain ⟨OH, hOH⟩ : ∃ x, optI hi' = x := ⟨_, rfl⟩
    obtain ⟨XD, hXD⟩ : ∃ x, xs.map D.str = x := ⟨_, rfl⟩
    obtain ⟨TD, hTD⟩ : ∃ x, ts.map timeD = x := ⟨_, rfl⟩
    obtain ⟨FD, hFD⟩ : ∃ x, fs.map (factL xs) = x := ⟨_, rfl⟩
    rw [hTJ] at i2 e6 e7 ⊢
    rw [hTI] at i4 e6 e7 ⊢
    rw [hKD] at ik ap ⊢
    rw [hNI] at n1 ap ⊢
    rw [hNJ] at n2 ap ⊢
    rw [hOL] at e6 ap ⊢
    rw [hOH] at e7 ap ⊢
    rw [hII] at i3 n1 e2 hj ⊢
    rw [hJI] at i1 n2 hj ⊢
    rw [hXD] at n1 n2 xl ⊢
    rw [hTD] at i1 i3 ⊢
    rw [hFD] at e1 e2 e3 e4 e5 e6 e7 a5 a7 i1 i2 i3 i4 ik n1 n2 ap ⊢
    have xn : ((XD.length : Nat) : Int) = n := by rw [xl, hn]
    obtain ⟨M0, hM0⟩ : ∃ M, m ++ [Mo.lst FD] = M := ⟨_, rfl⟩
    obtain ⟨M2, hM2⟩ : ∃ M, m2 ++ [Mo.lst FD] = M := ⟨_, rfl⟩
    obtain ⟨M3, hM3⟩ : ∃ M, m3 ++ [Mo.lst FD] = M := ⟨_, rfl⟩
    obtain ⟨M5, hM5⟩ : ∃ M, m5 ++ [Mo.lst FD] = M := ⟨_, rfl⟩
    obtain ⟨M7, hM7⟩ : ∃ M, m7 ++ [Mo.lst FD] = M := ⟨_, rfl⟩
    rw [hM0] at e1 ⊢
    rw [hM2] at e2 e3
    rw [hM3] at e3 e4 i1 i2 i3 i4
    rw [hM5] at e5 e6 a5 ik n1 n2
    rw [hM7] at e7 a7 ⊢
    obtain ⟨L, hL⟩ : ∃ x, m.length = x := ⟨_, rfl⟩
    rw [hL] at a5 a7 ⊢
    have n0 : 0 < n := by omega
    simp [B_w_facts_3_ap, xn, e1, e2, e3, hj, n0, i1, i2, i3, i4, e4, e5, a5, ik, n1, n2, e6, e7, a7, ap, hz]
  · rcases List.mem_append.mp hf with hf | hf
    · exact d f hf
    · rw [List.mem_singleton.mp hf]
      refine ⟨⟨?_, .inr ⟨i, j, rfl, hi, hj2, hij⟩, fun z hz => ?_, fun z hz => ?_, fun z y hz hy => ?_⟩, fun z hz => ?_, fun z hz => ?_⟩
      · unfold kdW; dsimp only; split
        · exact .inl rfl
        · exact .inr rfl
      · have := hlo z hz; exact b20 (by omega) (by omega)
      · have := hhi z hz; exact b20 (by omega) (by omega)
      · have h1 := hlo z hz; have h2 := hhi y hy; omega
      · have := hlo z hz
        show _ ≤ TM ts (kdW w) (j + 1) - TM ts (kdW w) (i + 1)
        rw [tmi, tmj]; omega
      · have := hhi z hz
        show TM ts (kdW w) (j + 1) - TM ts (kdW w) (i + 1) ≤ _
        rw [tmi, tmj]; omega
end W
set_option maxHeartbeats 8000000
namespace W
open PySem PySem.Spec L2 DL
theorem two_list {α : Type} {F : α → D} {Q : α → Prop} : ∀ {ds ys : List D}, Two (fun _ x => ∃ t, x = F t ∧ Q t) ds ys → ∃ ts : List α, ys = ts.map F ∧ ts.length = ds.length ∧ ∀ t ∈ ts, Q t
  | _, _, .nil => ⟨[], rfl, rfl, fun t h => nomatch h⟩
  | _, _, .cons h r => by
    obtain ⟨t, rfl, hq⟩ := h
    obtain ⟨ts, rfl, l, q⟩ := two_list r
    exact ⟨t :: ts, rfl, congrArg Nat.succ l, fun x hx => by
      rcases List.mem_cons.mp hx with rfl | hx
      · exact hq
      · exact q x hx⟩
theorem times_ok (c : Cs) {xs : List Str} (hx : xs.length ≤ 30) {P : Int} (hP : 1 ≤ P) (hP2 : P ≤ 40) {m : Mu} (hb : BagOk m) (x0 x1 x3 x5 x6 x7 x8 x9 x10 x11 x12 x13 : Option D) :
    ∃ (ts : List (Int × Int)) (m' : Mu), dCompL (dName 4) dYes (C_w_facts_1 c) [some (.loc 0), x1, some (.int P), x3, none, x5, x6, x7, x8, x9, x10, x11, x12, x13] (xs.map .str) m [] = .ok (ts.map timeD) m' ∧ TsOk xs.length ts ∧ Bgs m m' := by
  have hz : sizeLine = 16777216 := rfl
  obtain ⟨ys, m', h1, h2, h3⟩ := comp_draw (g := dName 4) (cc := dYes) (b := C_w_facts_1 c) (e := [some (.loc 0), x1, some (.int P), x3, none, x5, x6, x7, x8, x9, x10, x11, x12, x13]) (fun _ x => ∃ t : Int × Int, x = timeD t ∧ (0 ≤ t.1 ∧ t.1 ≤ 200 ∧ 0 ≤ t.2 ∧ t.2 ≤ 200)) (xs.map .str) [] m hb (fun d hd m hb => by
    have mo : mulOk 2 P = true := mulOk_lt (by omega) (by omega) (by omega) (by omega)
    obtain ⟨u, m1, e1, u0, u1, g1⟩ := take_ok c hb (n := 2 * P + 1) (by omega) (by omega)
    obtain ⟨v, m2, e2, v0, v1, g2⟩ := take_ok c (g1.bag hb) (n := 2 * P + 1) (by omega) (by omega)
    refine ⟨[some (.loc 0), x1, some (.int P), x3, some d, x5, x6, x7, x8, x9, x10, x11, x12, x13], timeD (u, v), m2, by simp, by simp, ?_, ⟨(u, v), rfl, u0, by dsimp only; omega, v0, by dsimp only; omega⟩, g1.trans g2⟩
    simp [C_w_facts_1_ap, mo, e1, e2, timeD, hz]) (by simp [hz]; omega)
  obtain ⟨ts, rfl, l, q⟩ := two_list h2
  rw [List.nil_append] at h1
  rw [List.length_map] at l
  exact ⟨ts, m', h1, ⟨l, q⟩, h3⟩
theorem ways_loop (c : Cs) {xs : List Str} {ts : List (Int × Int)} (ht : TsOk xs.length ts) (hx : xs.length ≤ 30) {m0 : Mu} (hb : BagOk m0) {M : Mu} (hM : Jf xs ts m0 0 M) (x2 x4 x6 x7 x8 x9 x10 x11 x12 x13 : Option D) :
    ∃ (M' : Mu) (y6 y7 y8 : Option D), dFor (dItR1 (dCons (dC (.int 2)) dNil)) (dName 6) (B_w_facts_2 c) [some (.loc 0), some (.lst (xs.map .str)), x2, some (.lst (ts.map timeD)), x4, some (.loc m0.length), x6, x7, x8, x9, x10, x11, x12, x13] M = .nx [some (.loc 0), some (.lst (xs.map .str)), x2, some (.lst (ts.map timeD)), x4, some (.loc m0.length), y6, y7, y8, x9, x10, x11, x12, x13] M' ∧ Jf xs ts m0 60 M' := by
  obtain ⟨M1, y7, y8, h1, j1⟩ := wf2_ok c ht hx hb (by omega) hM (.inl rfl) x2 x4 x7 x8 x9 x10 x11 x12 x13
  obtain ⟨M2, z7, z8, h2, j2⟩ := wf2_ok c ht hx hb (by omega) j1 (.inr rfl) x2 x4 y7 y8 x9 x10 x11 x12 x13
  refine ⟨M2, some (.int 1), z7, z8, ?_, j2.mono (by omega)⟩
  refine dFor_isT (m1 := M) (ds := [.int 0, .int 1]) (dItR1_of (j := 2) (by simp) (by omega) (by omega)) ?_
  rw [dLoop_step (e1 := [some (.loc 0), some (.lst (xs.map .str)), x2, some (.lst (ts.map timeD)), x4, some (.loc m0.length), some (.int 0), x7, x8, x9, x10, x11, x12, x13]) (by rfl) h1]
  rw [dLoop_step (e1 := [some (.loc 0), some (.lst (xs.map .str)), x2, some (.lst (ts.map timeD)), x4, some (.loc m0.length), some (.int 1), y7, y8, x9, x10, x11, x12, x13]) (by rfl) h2]
  rfl
theorem more_loop (c : Cs) {xs : List Str} {ts : List (Int × Int)} (ht : TsOk xs.length ts) (hx : xs.length ≤ 30) {m0 : Mu} (hb : BagOk m0) {M : Mu} (hM : Jf xs ts m0 60 M) (x2 x4 x6 x7 x8 x9 x10 x11 x12 x13 : Option D) :
    ∃ (M' : Mu) (y6 y8 y9 y10 y11 y12 y13 : Option D), dFor (dItR1 (dCons (dIf (dTst (dBin gGt (dFun gLen (dCons (dVar 1) dNil)) (dC (.int 1)))) (dFun (padF 2 [] (F_w_take c)) (dCons (dVar 0) (dCons (dC (.int 4)) dNil))) (dC (.int 0))) dNil)) (dName 9) (B_w_facts_3 c) [some (.loc 0), some (.lst (xs.map .str)), x2, some (.lst (ts.map timeD)), x4, some (.loc m0.length), x6, x7, x8, x9, x10, x11, x12, x13] M = .nx [some (.loc 0), some (.lst (xs.map .str)), x2, some (.lst (ts.map timeD)), x4, some (.loc m0.length), y6, x7, y8, y9, y10, y11, y12, y13] M' ∧ Jf xs ts m0 64 M' := by
  have xl : (xs.map D.str).length = xs.length := List.length_map ..
  by_cases h2 : 2 ≤ xs.length
  · obtain ⟨fs, m, rfl, g, l, d⟩ := hM.ex
    have hbm := g.bag hb
    obtain ⟨v, m1, e1, v0, v1, g1⟩ := take_lit c (t := [.lst (fs.map (factL xs))]) hbm 4 (by decide) (by decide)
    obtain ⟨k, rfl⟩ := Int.eq_ofNat_of_zero_le v0
    have J1 : Jf xs ts m0 60 (m1 ++ [.lst (fs.map (factL xs))]) := ⟨fs, m1, rfl, g.trans g1, l, d⟩
    obtain ⟨e2, M', h1, ⟨y6, y8, y9, y10, y11, y12, y13, rfl⟩, hj⟩ := loop_rel (g := dName 9) (b := B_w_facts_3 c) (F := fun i : Nat => D.int i)
      (fun pre e M => (∃ y6 y8 y9 y10 y11 y12 y13, e = [some (.loc 0), some (.lst (xs.map .str)), x2, some (.lst (ts.map timeD)), x4, some (.loc m0.length), y6, x7, y8, y9, y10, y11, y12, y13]) ∧ Jf xs ts m0 (60 + pre.length) M)
      (List.range k) [] [some (.loc 0), some (.lst (xs.map .str)), x2, some (.lst (ts.map timeD)), x4, some (.loc m0.length), x6, x7, x8, x9, x10, x11, x12, x13] (m1 ++ [.lst (fs.map (factL xs))]) (fun pre a post hp e M hI => by
        obtain ⟨⟨y6, y8, y9, y10, y11, y12, y13, rfl⟩, hJ⟩ := hI
        rw [List.nil_append] at hp
        have hpl := rng_pre hp
        obtain ⟨M2, z6, z8, z10, z11, z12, z13, st, j2⟩ := wf3_ok c ht h2 hx hb (by omega) hJ x2 x4 y6 x7 y8 (some (.int ((a : Nat) : Int))) y10 y11 y12 y13
        exact ⟨_, _, _, rfl, st, ⟨_, _, _, _, _, _, _, rfl⟩, by rw [List.length_append]; exact j2⟩)
      ⟨⟨_, _, _, _, _, _, _, rfl⟩, J1⟩
    refine ⟨M', y6, y8, y9, y10, y11, y12, y13, ?_, hj.mono (by simp; omega)⟩
    have rg := rngD_map k
    obtain ⟨KI, hKI⟩ : ∃ K : Int, ((k : Nat) : Int) = K := ⟨_, rfl⟩
    have rg2 : rngD 0 KI.toNat = (List.range k).map fun i : Nat => D.int i := by rw [← hKI, Int.toNat_natCast, rngD_map]
    rw [← rg2] at h1
    rw [hKI] at e1
    obtain ⟨XD, hXD⟩ : ∃ x, xs.map D.str = x := ⟨_, rfl⟩
    rw [hXD] at h1 xl ⊢
    have gt : (1 : Int) < ((XD.length : Nat) : Int) := by omega
    exact dFor_isT (dItR1_of (by simp [gt, e1]) (by omega) (by omega)) h1
  · refine ⟨M, x6, x8, x9, x10, x11, x12, x13, ?_, hM.mono (by omega)⟩
    obtain ⟨XD, hXD⟩ : ∃ x, xs.map D.str = x := ⟨_, rfl⟩
    rw [hXD] at xl ⊢
    have gt : ¬ (1 : Int) < ((XD.length : Nat) : Int) := by omega
    exact dFor_isT (m1 := M) (ds := []) (dItR1_of (j := 0) (by simp [gt]) (by omega) (by omega)) rfl
theorem wfacts_ok (c : Cs) {xs : List Str} (hx : xs.length ≤ 30) {P : Int} (hP : 1 ≤ P) (hP2 : P ≤ 40) {m : Mu} (hb : BagOk m) (hm : Cl m) :
    ∃ (fs : List Fct) (ts : List (Int × Int)) (m' : Mu), F_w_facts c [.loc 0, .lst (xs.map .str), .int P] m = .ok (.tup [.lst (fs.map (factL xs)), .lst (ts.map timeD)]) m' ∧ TsOk xs.length ts ∧ (∀ f ∈ fs, Drawn xs.length ts f) ∧ fs.length ≤ 64 ∧ Bgs m m' := by
  have hz : sizeLine = 16777216 := rfl
  obtain ⟨ts, m1, e1, ht, g1⟩ := times_ok c hx hP hP2 hb none (some (.lst (xs.map .str))) none none none none none none none none none none
  have b1 := g1.bag hb
  have J0 : Jf xs ts m1 0 (m1 ++ [.lst []]) := ⟨[], m1, rfl, b1.rfl', Nat.le_refl _, fun f h => nomatch h⟩
  obtain ⟨M2, y6, y7, y8, e2, j2⟩ := ways_loop c ht hx b1 J0 (some (.int P)) none none none none none none none none none
  obtain ⟨M3, z6, z8, z9, z10, z11, z12, z13, e3, j3⟩ := more_loop c ht hx b1 j2 (some (.int P)) none y6 y7 y8 none none none none none
  obtain ⟨fs, m3, rfl, g3, l3, d3⟩ := j3.ex
  have b3 := g3.bag b1
  have l13 := g3.len
  have lm := g1.len
  have hp := bag_pos b1
  obtain ⟨k, hk⟩ : ∃ k, m1.length = k + 1 := ⟨m1.length - 1, by omega⟩
  have hM3 : Cl (m3 ++ [.lst (fs.map (factL xs))]) := (g3.cl (g1.cl hm)).snoc (belows_F (fun f => factL_below xs _ f) _)
  obtain ⟨zs, M4, e4, pm, g4⟩ := mixed_okS c (F := factL xs) (fun f n => factL_below xs n f) (ys := fs) (by omega) (k := k) (m := m3 ++ [.lst (fs.map (factL xs))]) (by rw [← hk, ← l13]; exact at_end _ _) (bag_app b3 _) hM3
  obtain ⟨m4, rfl, g5⟩ := bgs_app b3 g4
  have lz : zs.length = fs.length := pm.length_eq
  refine ⟨zs, ts, m4, ?_, ht, fun f hf => d3 f (pm.mem_iff.mp hf), by omega, (g1.trans g3).trans g5⟩
  have l4 : m4.length = m.length := by rw [g5.len, g3.len, g1.len]
  have c4 : Cl m4 := (((g1.trans g3).trans g5).cl hm)
  have bz : belows m.length (zs.map (factL xs)) = true := belows_F (fun f => factL_below xs _ f) _
  have bt : belows m.length (ts.map timeD) = true := belows_F (fun t => rfl) _
  have tk : (m4 ++ [Mo.lst (fs.map (factL xs))]).take m.length = m4 := by rw [← l4]; simp
  rw [← hk] at e4
  obtain ⟨XD, hXD⟩ : ∃ x, xs.map D.str = x := ⟨_, rfl⟩
  obtain ⟨TD, hTD⟩ : ∃ x, ts.map timeD = x := ⟨_, rfl⟩
  obtain ⟨ZD, hZD⟩ : ∃ x, zs.map (factL xs) = x := ⟨_, rfl⟩
  obtain ⟨M3, hM3'⟩ : ∃ x, m3 ++ [Mo.lst (fs.map (factL xs))] = x := ⟨_, rfl⟩
  obtain ⟨M5, hM5⟩ : ∃ x, m4 ++ [Mo.lst (fs.map (factL xs))] = x := ⟨_, rfl⟩
  rw [hXD, hTD] at e1 
  rw [hXD, hTD] at e2 e3
  rw [hM3', hM5, hZD] at e4
  rw [hM3'] at e3
  rw [hZD] at bz
  rw [hTD] at bt
  rw [hM5] at tk
  rw [hXD, hTD, hZD]
  have e0 : (env0 14 [D.loc 0, .lst XD, .int P] : En) = [some (.loc 0), some (.lst XD), some (.int P), none, none, none, none, none, none, none, none, none, none, none] := by simp [env0]
  have s1 : dSet 3 (dComp (dItL (dVar 1)) (dName 4) dYes (C_w_facts_1 c) [4]) [some (.loc 0), some (.lst XD), some (.int P), none, none, none, none, none, none, none, none, none, none, none] m = .nx [some (.loc 0), some (.lst XD), some (.int P), some (.lst TD), none, none, none, none, none, none, none, none, none, none] m1 := by simp [wipeE, e1]
  have s2 : dSet 5 (dLoc dNil) [some (.loc 0), some (.lst XD), some (.int P), some (.lst TD), none, none, none, none, none, none, none, none, none, none] m1 = .nx [some (.loc 0), some (.lst XD), some (.int P), some (.lst TD), none, some (.loc m1.length), none, none, none, none, none, none, none, none] (m1 ++ [.lst []]) := by simp
  have s3 : dRet (dTup (dCons (dFun (padF 2 [] (F_w_mixed c)) (dCons (dVar 0) (dCons (dVar 5) dNil))) (dCons (dVar 3) dNil))) [some (.loc 0), some (.lst XD), some (.int P), some (.lst TD), none, some (.loc m1.length), z6, y7, z8, z9, z10, z11, z12, z13] M3 = .rt (.tup [.lst ZD, .lst TD]) M5 := by
    have cg := call_gen (n := 2) (t := dCons (dVar 0) (dCons (dVar 5) dNil)) (e := [some (.loc 0), some (.lst XD), some (.int P), some (.lst TD), none, some (.loc m1.length), z6, y7, z8, z9, z10, z11, z12, z13]) (m := M3) (ds := [.loc 0, .loc m1.length]) (by simp) rfl e4
    simp [-dFun_ap, cg, hz]
  unfold F_w_facts
  rw [dZap_eq, dFn_ap, e0, dSeq_nx s1, dSeq_nx s2, dSeq_nx e2, dSeq_nx e3, s3]
  unfold zapR
  dsimp only
  rw [tk, if_pos ⟨c4, l4⟩, if_pos (by simp only [below, belows, bz, bt, Bool.and_self])]
end W
set_option maxHeartbeats 8000000
namespace W
open PySem PySem.Spec L2 DL
theorem two_list2 {α : Type} {F G : α → D} {Q : α → Prop} : ∀ {ds ys : List D}, Two (fun d x => ∃ t, d = G t ∧ x = F t ∧ Q t) ds ys → ∃ ts : List α, ds = ts.map G ∧ ys = ts.map F ∧ ∀ t ∈ ts, Q t
  | _, _, .nil => ⟨[], rfl, rfl, fun t h => nomatch h⟩
  | _, _, .cons h r => by
    obtain ⟨t, rfl, rfl, hq⟩ := h
    obtain ⟨ts, rfl, rfl, q⟩ := two_list2 r
    exact ⟨t :: ts, rfl, rfl, fun x hx => by
      rcases List.mem_cons.mp hx with rfl | hx
      · exact hq
      · exact q x hx⟩
def shL (r : Shr) : D := .tup [.str r.1, .int r.2]
theorem strs_inj : ∀ {xs ys : List Str}, xs.map D.str = ys.map D.str → xs = ys
  | [], [], _ => rfl
  | [], _ :: _, h => by cases h
  | _ :: _, [], h => by cases h
  | x :: xs, y :: ys, h => by
    simp only [List.map_cons, List.cons.injEq, D.str.injEq] at h
    rw [h.1, strs_inj h.2]
theorem wshares_ok (c : Cs) {xs : List Str} (hx : xs.length ≤ 100) (hg : ∀ x ∈ xs, Good x) {P : Int} (hP : 2 ≤ P) (hP2 : P ≤ 1000) {m : Mu} (hb : BagOk m) :
    ∃ (rs : List Shr) (m' : Mu), F_w_shares c [.loc 0, .lst (xs.map .str), .int P] m = .ok (.lst (rs.map shL)) m' ∧ rs.map (·.1) = xs ∧ (∀ r ∈ rs, ShOk P r) ∧ Bgs m m' := by
  have hz : sizeLine = 16777216 := rfl
  obtain ⟨ys, m', h1, h2, h3⟩ := comp_draw (g := dName 3) (cc := dYes) (b := C_w_shares_1 c) (e := [some (.loc 0), some (.lst (xs.map .str)), some (.int P), none]) (fun d x => ∃ r : Shr, d = .str r.1 ∧ x = shL r ∧ (0 < r.2 ∧ r.2 < P)) (xs.map .str) [] m hb (fun d hd m hb => by
    obtain ⟨x, hx, rfl⟩ := List.mem_map.mp hd
    obtain ⟨u, m1, e1, u0, u1, g1⟩ := take_ok c hb (n := P - 1) (by omega) (by omega)
    refine ⟨[some (.loc 0), some (.lst (xs.map .str)), some (.int P), some (.str x)], shL (x, 1 + u), m1, by simp, by simp, ?_, ⟨(x, 1 + u), rfl, rfl, by dsimp only; omega, by dsimp only; omega⟩, g1⟩
    simp [C_w_shares_1_ap, e1, shL, hz]) (by simp [hz]; omega)
  obtain ⟨rs, r1, rfl, q⟩ := two_list2 (G := fun r : Shr => D.str r.1) (F := shL) h2
  rw [List.nil_append] at h1
  have nm : rs.map (·.1) = xs := (strs_inj (by rw [r1, List.map_map]; rfl)).symm
  refine ⟨rs, m', ?_, nm, fun r hr => ?_, h3⟩
  · obtain ⟨XD, hXD⟩ : ∃ x, xs.map D.str = x := ⟨_, rfl⟩
    rw [hXD] at h1 ⊢
    simp [F_w_shares, env0, wipeE, h1]
  · have hm : r.1 ∈ xs := by rw [← nm]; exact List.mem_map.mpr ⟨r, hr, rfl⟩
    exact ⟨hg _ hm, (q r hr).1, (q r hr).2⟩
theorem wfact_ok (c : Cs) {P : Int} (hP : 0 < P) {s : Nat} (hs : s < 4000) (hP2 : Bi s P) (xs : List Str) {n : Nat} {f : Fct} (hf : FOk s n f) {m : Mu} (hm : Cl m) : F_w_fact c [factL xs f, .int P] m = .ok (factD c P xs f) m := by
  have hz : sizeLine = 16777216 := rfl
  have one : ∀ (v : Option Int), (∀ k, v = some k → Bi s k) → ∀ x0 x2 x3 x4 x5 x6, C_w_fact_1 c [x0, some (.int P), x2, x3, x4, x5, x6, some (optI v)] m = .ok (oD c P v) m := fun v hv x0 x2 x3 x4 x5 x6 => by
    rw [C_w_fact_1_ap]
    cases v with
    | none => show dIf _ _ _ [x0, some (.int P), x2, x3, x4, x5, x6, some .non] m = .ok D.non m; simp
    | some k =>
      have r := rmk c (a := k) (b := P) (k := s) (by omega) hP2 (by omega) hm
      show dIf _ _ _ [x0, some (.int P), x2, x3, x4, x5, x6, some (.int k)] m = .ok (rat c (Rat.divInt k P)) m
      obtain ⟨Q, hQ⟩ : ∃ x, rat c (Rat.divInt k P) = x := ⟨_, rfl⟩
      rw [hQ] at r ⊢
      simp [r]
  have o1 := one f.lo hf.lo
  have o2 := one f.hi hf.hi
  have fd : factD c P xs f = .tup ([.str f.kd] ++ (f.hs.map fun a => .str (xs.getD a Str.empty)) ++ [oD c P f.lo, oD c P f.hi]) := rfl
  have hl : (f.hs.map fun a => D.str (xs.getD a Str.empty)).length ≤ 2 := by
    rcases hf.hs with ⟨a, e, _⟩ | ⟨a, b, e, _⟩ <;> rw [e] <;> simp
  have fl : factL xs f = .tup [.str f.kd, .tup (f.hs.map fun a => .str (xs.getD a Str.empty)), optI f.lo, optI f.hi] := rfl
  rw [fd, fl]
  obtain ⟨HS, hHS⟩ : ∃ x, (f.hs.map fun a => D.str (xs.getD a Str.empty)) = x := ⟨_, rfl⟩
  obtain ⟨LO, hLO⟩ : ∃ x, optI f.lo = x := ⟨_, rfl⟩
  obtain ⟨HI, hHI⟩ : ∃ x, optI f.hi = x := ⟨_, rfl⟩
  obtain ⟨OL, hOL⟩ : ∃ x, oD c P f.lo = x := ⟨_, rfl⟩
  obtain ⟨OH, hOH⟩ : ∃ x, oD c P f.hi = x := ⟨_, rfl⟩
  rw [hHS] at hl
  rw [hLO, hOL] at o1
  rw [hHI, hOH] at o2
  rw [hHS, hLO, hHI, hOL, hOH]
  have gT : gTuple [.lst [OL, OH]] m = .ok (.tup [OL, OH]) m := by simp [gTuple, seqA, seqL]
  have h1 : 1 + HS.length ≤ 16777216 := by omega
  have h2 : 1 + HS.length + 2 ≤ 16777216 := by omega
  have c1 : gCatT (.tup [.str f.kd]) (.tup HS) m = .ok (.tup ([.str f.kd] ++ HS)) m := by simp [gCatT, hz]; omega
  have c2 : gCatT (.tup ([.str f.kd] ++ HS)) (.tup [OL, OH]) m = .ok (.tup ([.str f.kd] ++ HS ++ [OL, OH])) m := by simp [gCatT, hz]; omega
  obtain ⟨KH, hKH⟩ : ∃ x, [D.str f.kd] ++ HS = x := ⟨_, rfl⟩
  rw [hKH] at c1 c2 ⊢
  simp [F_w_fact, env0, wipeE, o1, o2, gT, -gCatT_ap, c1, c2, hz]
theorem wsurvey_ok (c : Cs) {P : Int} (hP : 2 ≤ P) (hP2 : P ≤ 1000) {rs : List Shr} (h0 : rs ≠ []) (hl : rs.length ≤ 12) (hn : (rs.map (·.1)).Nodup) (ok : ∀ r ∈ rs, ShOk P r) {ts : List (Int × Int)} (ht : TsOk rs.length ts) {fs : List Fct} (hf : ∀ f ∈ fs, Drawn rs.length ts f) (hfl : fs.length ≤ 1000) {m : Mu} (hm : Cl m) :
    F_w_survey c [.lst (rs.map shL), .lst (fs.map (factL (rs.map (·.1)))), .int P] m = .ok (svy c P rs fs) m := by
  have hz : sizeLine = 16777216 := rfl
  have BP : Bi 20 P := b20 (by omega) (by omega)
  have mk := survey_mk c (s := 20) (by omega) (by decide) (by decide) BP hm h0 hl hn ok (fun f h => (hf f h).ok) hfl (fun kd i v hk hi e => fit_pos (tm := TM ts kd) rfl (TM_nn (fun t h => by have := ht.b t h; omega) kd) (fun f hm hk => by have := (hf f hm).fit; rw [hk] at this; exact this) i v e)
  obtain ⟨xs, hxs⟩ : ∃ xs, rs.map (·.1) = xs := ⟨_, rfl⟩
  have cm1 : dCompL (dTupG 2 (dGcons (dName 3) (dGcons (dName 4) dGnil))) dYes (C_w_survey_2 c) [some (.lst (rs.map shL)), some (.lst (fs.map (factL xs))), some (.int P), none, none, none] (rs.map shL) m [] = .ok (rs.map (shD c P)) m := by
    rw [compL_of (F := shL) (f := shD c P) (p := fun _ => true) rs [] (fun r hr => ⟨[some (.lst (rs.map shL)), some (.lst (fs.map (factL xs))), some (.int P), some (.str r.1), some (.int r.2), none], by simp [shL], by simp, fun _ => by
      have q := rmk c (a := r.2) (b := P) (k := 20) (by omega) BP (by decide) hm
      unfold shD
      obtain ⟨Q, hQ⟩ : ∃ x, rat c (Rat.divInt r.2 P) = x := ⟨_, rfl⟩
      rw [hQ] at q ⊢
      simp [C_w_survey_2_ap, q, hz]⟩) (by simp [hz]; omega), filt_true, List.nil_append]
  have cm2 : dCompL (dName 5) dYes (C_w_survey_1 c) [some (.lst (rs.map shL)), some (.lst (fs.map (factL xs))), some (.int P), none, none, none] (fs.map (factL xs)) m [] = .ok (fs.map (factD c P xs)) m := by
    rw [compL_of (F := factL xs) (f := factD c P xs) (p := fun _ => true) fs [] (fun f hfm => ⟨[some (.lst (rs.map shL)), some (.lst (fs.map (factL xs))), some (.int P), none, none, some (factL xs f)], by simp, by simp, fun _ => by
      have q := wfact_ok c (P := P) (by omega) (by decide) BP xs (hf f hfm).ok hm
      rw [C_w_survey_1_ap]
      exact call_gen (ds := [factL xs f, .int P]) (by simp) rfl q⟩) (by simp [hz]; omega), filt_true, List.nil_append]
  rw [hxs] at mk ⊢
  obtain ⟨RL, hRL⟩ : ∃ x, rs.map shL = x := ⟨_, rfl⟩
  obtain ⟨FL, hFL⟩ : ∃ x, fs.map (factL xs) = x := ⟨_, rfl⟩
  obtain ⟨RD, hRD⟩ : ∃ x, rs.map (shD c P) = x := ⟨_, rfl⟩
  obtain ⟨FD, hFD⟩ : ∃ x, fs.map (factD c P xs) = x := ⟨_, rfl⟩
  obtain ⟨SV, hSV⟩ : ∃ x, svy c P rs fs = x := ⟨_, rfl⟩
  rw [hRL, hFL, hRD] at cm1
  rw [hRL, hFL, hFD] at cm2
  rw [hRD, hFD, hSV] at mk
  rw [hRL, hFL, hSV]
  simp [F_w_survey, env0, wipeE, cm1, dCompS, comp1, cm2, fF, mk]
end W
set_option maxHeartbeats 8000000
namespace W
open PySem PySem.Spec L2 DL
def okLo : Option Int → Int → Bool
  | none, _ => true
  | some l, t => decide (l ≤ t)
def okHi : Option Int → Int → Bool
  | none, _ => true
  | some h, t => decide (t ≤ h)
def dT (ts : List (Int × Int)) (f : Fct) : Int := TM ts f.kd (spotF f).2 - TM ts f.kd (spotF f).1
def satF (ts : List (Int × Int)) (f : Fct) : Bool := okLo f.lo (dT ts f) && okHi f.hi (dT ts f)
def nnT (t : Int × Int) : Bool := decide (0 ≤ t.1) && decide (0 ≤ t.2)
def fitB (ts : List (Int × Int)) (fs : List Fct) : Bool := ts.all nnT && fs.all (satF ts)
theorem fit_drawn {n : Nat} {ts : List (Int × Int)} {fs : List Fct} (ht : TsOk n ts) (h : ∀ f ∈ fs, Drawn n ts f) : fitB ts fs = true := by
  unfold fitB
  rw [Bool.and_eq_true, List.all_eq_true, List.all_eq_true]
  refine ⟨fun t hm => ?_, fun f hm => ?_⟩
  · have := ht.b t hm
    unfold nnT
    rw [Bool.and_eq_true, decide_eq_true_eq, decide_eq_true_eq]; omega
  · obtain ⟨h1, h2⟩ := (h f hm).fit
    unfold satF
    rw [Bool.and_eq_true]
    constructor
    · cases e : f.lo with
      | none => rfl
      | some v => exact decide_eq_true (h1 v e)
    · cases e : f.hi with
      | none => rfl
      | some v => exact decide_eq_true (h2 v e)
def pairD (c : Cs) (P : Int) (t : Int × Int) : D := .tup [rat c (Rat.divInt t.1 P), rat c (Rat.divInt t.2 P)]
theorem has_bounds_ok (c : Cs) {P : Int} (hP : 0 < P) {s : Nat} (hs : s < 4000) (hP2 : Bi s P) {t : Int} (ht : Bi s t) {lo hi : Option Int} (hlo : ∀ v, lo = some v → Bi s v) (hhi : ∀ v, hi = some v → Bi s v) (m : Mu) : F_has_bounds c [rat c (Rat.divInt t P), oD c P lo, oD c P hi] m = .ok (.bl (okLo lo t && okHi hi t)) m := by
  have niN : gIsN .non .non m = .ok (.bl true) m := rfl
  have niR : ∀ q, gIsN (rat c q) .non m = .ok (.bl false) m := fun _ => rfl
  have iT := insOf_rat m c (Rat.divInt t P)
  have sz : ∀ v, Bi s v → Sz s (Rat.divInt v P) := fun v h => Sz.di h hP2 (by omega)
  have L : ∀ (T : D), T = rat c (Rat.divInt t P) → ∀ x2, (dOr (dBin gIsN (dVar 1) (dC .non)) (dNotO [] (dMeth [(c.kRatio, padF 2 [] (F_Ratio_is_below c))] (dVar 0) (dCons (dVar 1) dNil)))) [some T, some (oD c P lo), x2] m = .ok (.bl (okLo lo t)) m := fun T hT x2 => by
    rw [← hT] at iT
    cases lo with
    | none => show dOr _ _ [some T, some .non, x2] m = _; simp [-gIsN_ap, niN, okLo]
    | some l =>
      have n1 := niR (Rat.divInt l P)
      have bl := below_ok c (sz t ht) (sz l (hlo l rfl)) (m := m) (by omega)
      rw [show decide (Rat.divInt t P < Rat.divInt l P) = decide (t < l) from decide_eq_decide.mpr (di_lt hP), ← hT] at bl
      have eq : decide (l ≤ t) = !decide (t < l) := by
        by_cases h : t < l
        · rw [decide_eq_true h, decide_eq_false (by omega)]; rfl
        · rw [decide_eq_false h, decide_eq_true (by omega)]; rfl
      show dOr _ _ [some T, some (rat c (Rat.divInt l P)), x2] m = .ok (.bl (decide (l ≤ t))) m
      rw [eq]
      obtain ⟨Q, hQ⟩ : ∃ x, rat c (Rat.divInt l P) = x := ⟨_, rfl⟩
      rw [hQ] at n1 bl ⊢
      simp [-gIsN_ap, n1, dMeth, methAt, iT, bl]
  have H : ∀ (T : D), T = rat c (Rat.divInt t P) → ∀ x1, (dOr (dBin gIsN (dVar 2) (dC .non)) (dNotO [] (dMeth [(c.kRatio, padF 2 [] (F_Ratio_is_below c))] (dVar 2) (dCons (dVar 0) dNil)))) [some T, x1, some (oD c P hi)] m = .ok (.bl (okHi hi t)) m := fun T hT x1 => by
    cases hi with
    | none => show dOr _ _ [some T, x1, some .non] m = _; simp [-gIsN_ap, niN, okHi]
    | some l =>
      have n1 := niR (Rat.divInt l P)
      have iL := insOf_rat m c (Rat.divInt l P)
      have bl := below_ok c (sz l (hhi l rfl)) (sz t ht) (m := m) (by omega)
      rw [show decide (Rat.divInt l P < Rat.divInt t P) = decide (l < t) from decide_eq_decide.mpr (di_lt hP), ← hT] at bl
      have eq : decide (t ≤ l) = !decide (l < t) := by
        by_cases h : l < t
        · rw [decide_eq_true h, decide_eq_false (by omega)]; rfl
        · rw [decide_eq_false h, decide_eq_true (by omega)]; rfl
      show dOr _ _ [some T, x1, some (rat c (Rat.divInt l P))] m = .ok (.bl (decide (t ≤ l))) m
      rw [eq]
      obtain ⟨Q, hQ⟩ : ∃ x, rat c (Rat.divInt l P) = x := ⟨_, rfl⟩
      rw [hQ] at n1 bl iL ⊢
      simp [-gIsN_ap, n1, dMeth, methAt, iL, bl]
  have L1 := L _ rfl (some (oD c P hi))
  have H1 := H _ rfl (some (oD c P lo))
  obtain ⟨T, hT⟩ : ∃ x, rat c (Rat.divInt t P) = x := ⟨_, rfl⟩
  obtain ⟨LO, hLO⟩ : ∃ x, oD c P lo = x := ⟨_, rfl⟩
  obtain ⟨HI, hHI⟩ : ∃ x, oD c P hi = x := ⟨_, rfl⟩
  rw [hT, hLO, hHI] at L1 H1 ⊢
  cases hq : okLo lo t with
  | true => rw [hq] at L1; simp [F_has_bounds, env0, -dOr_ap, L1, H1]
  | false => rw [hq] at L1; simp [F_has_bounds, env0, -dOr_ap, L1]
section
variable {P : Int} {s : Nat} {m : Mu} {xs : List Str} {ts : List (Int × Int)}
theorem TM_at (ts : List (Int × Int)) (kd : Str) (a : Nat) : TM ts kd (a + 1) = if kd = "out" then (ts.getD a (0, 0)).1 else (ts.getD a (0, 0)).2 := rfl
theorem TM_bi {ts : List (Int × Int)} (h : ∀ t ∈ ts, Bi s t.1 ∧ Bi s t.2) (kd : Str) : ∀ i, Bi s (TM ts kd i)
  | 0 => by show Bi s 0; unfold Bi; exact Nat.two_pow_pos s
  | k + 1 => by
    have z : Bi s 0 := by unfold Bi; exact Nat.two_pow_pos s
    have : Bi s (ts.getD k (0, 0)).1 ∧ Bi s (ts.getD k (0, 0)).2 := by
      by_cases hk : k < ts.length
      · rw [List.getD_eq_getElem?_getD, List.getElem?_eq_getElem hk]
        exact h _ (List.getElem_mem hk)
      · rw [List.getD_eq_getElem?_getD, List.getElem?_eq_none (by omega)]
        exact ⟨z, z⟩
    rw [TM_at]
    split
    · exact this.1
    · exact this.2
theorem held3_ok (c : Cs) (hn : xs.Nodup) {f : Fct} (hf : f.kd = "out" ∨ f.kd = "back") {X FD : D} (hX : ∀ a, a < xs.length → ∀ M, gIx X (.int ((a : Nat) : Int)) M = .ok (pairD c P (ts.getD a (0, 0))) M) (fd : ∀ M, gIx FD (.int 0) M = .ok (.str f.kd) M) {a : Nat} (ha : a < xs.length) (x0 x2 x3 x6 : Option D) (M : Mu) :
    C_Survey_is_fit_3 c [x0, some X, x2, x3, some (.lst (xs.map .str)), some FD, x6, some (.str (xs.getD a Str.empty))] M = .ok (rat c (Rat.divInt (TM ts f.kd (a + 1)) P)) M := by
  have id := index_ok hn ha M
  have h1 := hX a ha M
  have h2 := fd M
  have ne : ¬ ("out" : Str) = "back" := by decide +kernel
  have ki : idxS f.kd ["out", "back"] = some (if f.kd = "out" then 0 else 1) := by
    rcases hf with e | e <;> rw [e]
    · rfl
    · rw [if_neg (fun z => ne z.symm)]; rfl
  have g2 : gIx (pairD c P (ts.getD a (0, 0))) (.int (((if f.kd = "out" then 0 else 1 : Nat) : Nat) : Int)) M = .ok (rat c (Rat.divInt (TM ts f.kd (a + 1)) P)) M := by
    rw [TM_at]
    by_cases e : f.kd = "out"
    · rw [if_pos e, if_pos e]; rfl
    · rw [if_neg e, if_neg e]; rfl
  obtain ⟨NA, hNA⟩ : ∃ x, xs.getD a Str.empty = x := ⟨_, rfl⟩
  obtain ⟨XD, hXD⟩ : ∃ x, xs.map D.str = x := ⟨_, rfl⟩
  obtain ⟨PD, hPD⟩ : ∃ x, pairD c P (ts.getD a (0, 0)) = x := ⟨_, rfl⟩
  obtain ⟨R, hR⟩ : ∃ x, rat c (Rat.divInt (TM ts f.kd (a + 1)) P) = x := ⟨_, rfl⟩
  obtain ⟨KI, hKI⟩ : ∃ x, (if f.kd = "out" then 0 else 1 : Nat) = x := ⟨_, rfl⟩
  obtain ⟨AI, hAI⟩ : ∃ x : Int, ((a : Nat) : Int) = x := ⟨_, rfl⟩
  rw [hNA, hXD, hAI] at id
  rw [hPD, hAI] at h1
  rw [hPD, hR, hKI] at g2
  rw [hKI] at ki
  rw [hNA, hXD, hR, C_Survey_is_fit_3_ap]
  simp [id, h1, h2, ki, g2]
theorem fit1_ok (c : Cs) (hP : 0 < P) (hs : s < 3000) (hP2 : Bi s P) (hm : Cl m) (hn : xs.Nodup) {f : Fct} (hf : FOk s xs.length f) (ht : ∀ t ∈ ts, Bi s t.1 ∧ Bi s t.2) {X : D} (hX : ∀ a, a < xs.length → ∀ M, gIx X (.int ((a : Nat) : Int)) M = .ok (pairD c P (ts.getD a (0, 0))) M) (x0 x2 x3 x6 x7 : Option D) :
    (satF ts f = false → B_Survey_is_fit_1 c [x0, some X, x2, x3, some (.lst (xs.map .str)), some (factD c P xs f), x6, x7] m = .rt (.bl false) m) ∧
    (satF ts f = true → ∃ y3 y6 y7, B_Survey_is_fit_1 c [x0, some X, x2, x3, some (.lst (xs.map .str)), some (factD c P xs f), x6, x7] m = .nx [x0, some X, x2, y3, some (.lst (xs.map .str)), some (factD c P xs f), y6, y7] m) := by
  have hz : sizeLine = 16777216 := rfl
  have fd0 : ∀ M, gIx (factD c P xs f) (.int 0) M = .ok (.str f.kd) M := fun M => by
    rcases hf.hs with ⟨a, e, _⟩ | ⟨a, b, e, _⟩ <;> (unfold factD; rw [e]; rfl)
  have bi := TM_bi ht f.kd
  -- what is behind the look for the time
  have tail : ∀ (x6 : Option D) (F : D), F = factD c P xs f → ∀ (fm1 : gIx F (.int (-1)) m = .ok (oD c P f.hi) m) (fm2 : gIx F (.int (-2)) m = .ok (oD c P f.lo) m), dIfS (dNotT (dTst (dFun (padF 3 [] (F_has_bounds c)) (dCons (dVar 3) (dCons (dBin gIx (dVar 5) (dNegI (dC (.int 2)))) (dCons (dBin gIx (dVar 5) (dNegI (dC (.int 1)))) dNil)))))) (dRet (dC (.bl false))) dSkip [x0, some X, x2, some (rat c (Rat.divInt (dT ts f) P)), some (.lst (xs.map .str)), some F, x6, x7] m = if satF ts f then .nx [x0, some X, x2, some (rat c (Rat.divInt (dT ts f) P)), some (.lst (xs.map .str)), some F, x6, x7] m else .rt (.bl false) m := fun x6 F _ fm1 fm2 => by
    have hb := has_bounds_ok c hP (s := s + 1) (by omega) (hP2.mono (by omega)) (t := dT ts f) ((bi _).sub (bi _)) (lo := f.lo) (hi := f.hi) (fun v h => (hf.lo v h).mono (by omega)) (fun v h => (hf.hi v h).mono (by omega)) m
    have hb : F_has_bounds c [rat c (Rat.divInt (dT ts f) P), oD c P f.lo, oD c P f.hi] m = .ok (.bl (satF ts f)) m := hb
    obtain ⟨T, hT⟩ : ∃ x, rat c (Rat.divInt (dT ts f) P) = x := ⟨_, rfl⟩
    obtain ⟨LO, hLO⟩ : ∃ x, oD c P f.lo = x := ⟨_, rfl⟩
    obtain ⟨HI, hHI⟩ : ∃ x, oD c P f.hi = x := ⟨_, rfl⟩
    obtain ⟨XD, hXD⟩ : ∃ x, xs.map D.str = x := ⟨_, rfl⟩
    rw [hT, hLO, hHI] at hb
    rw [hLO] at fm2
    rw [hHI] at fm1
    rw [hT, hXD]
    have cg := call_gen (n := 3) (t := dCons (dVar 3) (dCons (dBin gIx (dVar 5) (dNegI (dC (.int 2)))) (dCons (dBin gIx (dVar 5) (dNegI (dC (.int 1)))) dNil))) (e := [x0, some X, x2, some T, some (.lst XD), some F, x6, x7]) (m := m) (ds := [T, LO, HI]) (by simp [fm1, fm2]) rfl hb
    cases hq : satF ts f with
    | true => rw [hq] at cg; simp [-dFun_ap, cg]
    | false => rw [hq] at cg; simp [-dFun_ap, cg]
  rcases hf.hs with ⟨a, e, ha⟩ | ⟨a, b, e, ha, hb, hab⟩
  · have fdd : factD c P xs f = .tup [.str f.kd, .str (xs.getD a Str.empty), oD c P f.lo, oD c P f.hi] := by unfold factD; rw [e]; rfl
    have h3 := held3_ok c hn hf.kd hX fd0 ha
    have dt : dT ts f = TM ts f.kd (a + 1) := by unfold dT spotF; rw [e]; exact Int.sub_zero _
    have tl := fun x6 => tail x6 _ rfl (by rw [fdd]; exact ix_m1_4 _ _ _ _ m) (by rw [fdd]; exact ix_m2_4 _ _ _ _ m)
    have st : B_Survey_is_fit_1 c [x0, some X, x2, x3, some (.lst (xs.map .str)), some (factD c P xs f), x6, x7] m = if satF ts f then .nx [x0, some X, x2, some (rat c (Rat.divInt (dT ts f) P)), some (.lst (xs.map .str)), some (factD c P xs f), some (.lst [rat c (Rat.divInt (dT ts f) P)]), x7] m else .rt (.bl false) m := by
      rw [← tl, B_Survey_is_fit_1_ap]
      rw [← dt] at h3
      rw [fdd] at h3 ⊢
      obtain ⟨NA, hNA⟩ : ∃ x, xs.getD a Str.empty = x := ⟨_, rfl⟩
      obtain ⟨LO, hLO⟩ : ∃ x, oD c P f.lo = x := ⟨_, rfl⟩
      obtain ⟨HI, hHI⟩ : ∃ x, oD c P f.hi = x := ⟨_, rfl⟩
      obtain ⟨XD, hXD⟩ : ∃ x, xs.map D.str = x := ⟨_, rfl⟩
      obtain ⟨T, hT⟩ : ∃ x, rat c (Rat.divInt (dT ts f) P) = x := ⟨_, rfl⟩
      rw [hNA, hLO, hHI, hXD, hT] at h3
      rw [hNA, hLO, hHI, hXD, hT]
      have ct := cut14 (.str f.kd) (.str NA) LO HI
      refine (dSeq_nx (e1 := [x0, some X, x2, x3, some (.lst XD), some (.tup [.str f.kd, .str NA, LO, HI]), some (.lst [T]), x7]) (m1 := m) ?_).trans ?_
      · simp [ct, h3, wipeE, hz]
      refine (dSeq_nx (e1 := [x0, some X, x2, some T, some (.lst XD), some (.tup [.str f.kd, .str NA, LO, HI]), some (.lst [T]), x7]) (m1 := m) ?_).trans ?_
      · simp
      rfl
    rw [st]
    exact ⟨fun h => by rw [h]; rfl, fun h => ⟨_, _, _, by rw [h]; rfl⟩⟩
  · have fdd : factD c P xs f = .tup [.str f.kd, .str (xs.getD a Str.empty), .str (xs.getD b Str.empty), oD c P f.lo, oD c P f.hi] := by unfold factD; rw [e]; rfl
    have h3 := held3_ok c hn hf.kd hX fd0 ha
    have h4 := held3_ok c hn hf.kd hX fd0 hb
    have dt : dT ts f = TM ts f.kd (b + 1) - TM ts f.kd (a + 1) := by unfold dT spotF; rw [e]
    have sb := sub_ok c (Sz.di (bi (b + 1)) hP2 (by omega)) (Sz.di (bi (a + 1)) hP2 (by omega)) hm (by omega)
    rw [di_sub, ← dt] at sb
    have iB := insOf_rat m c (Rat.divInt (TM ts f.kd (b + 1)) P)
    have iA := insOf_rat m c (Rat.divInt (TM ts f.kd (a + 1)) P)
    have gs : gSub (rat c (Rat.divInt (TM ts f.kd (b + 1)) P)) (rat c (Rat.divInt (TM ts f.kd (a + 1)) P)) m = .stuck := rfl
    have tl := fun x6 => tail x6 _ rfl (by rw [fdd]; exact ix_m1_5 _ _ _ _ _ m) (by rw [fdd]; exact ix_m2_5 _ _ _ _ _ m)
    have st : B_Survey_is_fit_1 c [x0, some X, x2, x3, some (.lst (xs.map .str)), some (factD c P xs f), x6, x7] m = if satF ts f then .nx [x0, some X, x2, some (rat c (Rat.divInt (dT ts f) P)), some (.lst (xs.map .str)), some (factD c P xs f), some (.lst [rat c (Rat.divInt (TM ts f.kd (a + 1)) P), rat c (Rat.divInt (TM ts f.kd (b + 1)) P)]), x7] m else .rt (.bl false) m := by
      rw [← tl, B_Survey_is_fit_1_ap]
      rw [fdd] at h3 h4 ⊢
      obtain ⟨NA, hNA⟩ : ∃ x, xs.getD a Str.empty = x := ⟨_, rfl⟩
      obtain ⟨NB, hNB⟩ : ∃ x, xs.getD b Str.empty = x := ⟨_, rfl⟩
      obtain ⟨LO, hLO⟩ : ∃ x, oD c P f.lo = x := ⟨_, rfl⟩
      obtain ⟨HI, hHI⟩ : ∃ x, oD c P f.hi = x := ⟨_, rfl⟩
      obtain ⟨XD, hXD⟩ : ∃ x, xs.map D.str = x := ⟨_, rfl⟩
      obtain ⟨T, hT⟩ : ∃ x, rat c (Rat.divInt (dT ts f) P) = x := ⟨_, rfl⟩
      obtain ⟨RA, hRA⟩ : ∃ x, rat c (Rat.divInt (TM ts f.kd (a + 1)) P) = x := ⟨_, rfl⟩
      obtain ⟨RB, hRB⟩ : ∃ x, rat c (Rat.divInt (TM ts f.kd (b + 1)) P) = x := ⟨_, rfl⟩
      rw [hNA, hNB, hLO, hHI, hXD, hRA] at h3
      rw [hNA, hNB, hLO, hHI, hXD, hRB] at h4
      rw [hRB, hRA, hT] at sb
      rw [hRA] at iA gs
      rw [hRB] at iB gs
      rw [hNA, hNB, hLO, hHI, hXD, hT, hRA, hRB]
      have oS : orD gSub (dOwn2 c.cRatio (padF 2 [] (F_RatioD_subD c))) RB RA m = .ok T m := by
        unfold orD
        rw [gs]
        simp [iA, iB, sb]
      have ct := cut15 (.str f.kd) (.str NA) (.str NB) LO HI
      refine (dSeq_nx (e1 := [x0, some X, x2, x3, some (.lst XD), some (.tup [.str f.kd, .str NA, .str NB, LO, HI]), some (.lst [RA, RB]), x7]) (m1 := m) ?_).trans ?_
      · simp [ct, h3, h4, wipeE, hz]
      refine (dSeq_nx (e1 := [x0, some X, x2, some T, some (.lst XD), some (.tup [.str f.kd, .str NA, .str NB, LO, HI]), some (.lst [RA, RB]), x7]) (m1 := m) ?_).trans ?_
      · simp [-orD_ap, oS]
      rfl
    rw [st]
    exact ⟨fun h => by rw [h]; rfl, fun h => ⟨_, _, _, by rw [h]; rfl⟩⟩
end
end W
set_option maxHeartbeats 8000000
namespace W
open PySem PySem.Spec L2 DL
theorem dSeq_rS {t u : DS} {e : En} {m m1 : Mu} {d : D} (h : t e m = .rt d m1) : dSeq t u e m = .rt d m1 := by
  simp [h]
section
variable {P : Int} {s : Nat} {m : Mu} {ts : List (Int × Int)}
def nnD (t : Int × Int) : List D := [.bl (decide (0 ≤ t.1)), .bl (decide (0 ≤ t.2))]
theorem between0 (c : Cs) (hP : 0 < P) (hs : s < 3000) (hP2 : Bi s P) {v : Int} (hv : Bi s v) (x0 x1 x2 x4 x5 x6 x7 : Option D) {M : Mu} (hM : Cl M) : C_Survey_is_fit_2 c [x0, x1, x2, some (rat c (Rat.divInt v P)), x4, x5, x6, x7] M = .ok (.bl (decide (0 ≤ v))) M := by
  have b := betweenN_ok c (Sz.di hv hP2 (by omega)) 0 hM (Bi.lit (by decide)) (by omega)
  rw [show decide (((0 : Int) : Rat) ≤ Rat.divInt v P) = decide (0 ≤ v) from decide_eq_decide.mpr (by
    rw [show ((0 : Int) : Rat) = Rat.divInt 0 P from (Rat.zero_divInt P).symm]
    exact di_le hP)] at b
  rw [C_Survey_is_fit_2_ap]
  obtain ⟨Q, hQ⟩ : ∃ x, rat c (Rat.divInt v P) = x := ⟨_, rfl⟩
  rw [hQ] at b ⊢
  exact call_gen (ds := [Q, .int 0, .non]) (by simp) rfl b
theorem lc1_step {n : Nat} {g : DG} {cc : DT} {b : DE} {e e1 : En} {d x : D} {ds acc : List D} {m : Mu} (h1 : g d e = some e1) (h2 : cc e1 m = .ok true m) (h3 : b e1 m = .ok x m) (h4 : m[n]? = some (.lst acc)) (h5 : acc.length < 10000) : dLc1 n g cc b e (d :: ds) m = dLc1 n g cc b e ds (m.set n (.lst (acc ++ [x]))) := by
  have hz : sizeLine = 16777216 := rfl
  have h6 : acc.length < sizeLine := by omega
  conv => lhs; unfold dLc1
  simp [h1, h2, h3, h4, h6]
theorem all_between (c : Cs) (hP : 0 < P) (hs : s < 3000) (hP2 : Bi s P) (hm : Cl m) (x0 x1 x4 x5 x6 x7 : Option D) : ∀ (ts : List (Int × Int)) (acc : List D), (∀ t ∈ ts, Bi s t.1 ∧ Bi s t.2) → (∀ k, belows k acc = true) → acc.length + 2 * ts.length ≤ 5000 →
    dLc2 m.length (dName 2) dYes (J_Survey_is_fit_1 c) (dName 3) dYes (C_Survey_is_fit_2 c) [3] [x0, x1, none, none, x4, x5, x6, x7] (ts.map (pairD c P)) (m ++ [.lst acc]) = .ok () (m ++ [.lst (acc ++ ts.flatMap nnD)])
  | [], acc, _, _, _ => by simp [dLc2]
  | t :: ts, acc, h, hb, hl => by
    simp only [List.length_cons] at hl
    obtain ⟨t1, t2⟩ := h t (by simp)
    have at0 : ∀ ds : List D, (m ++ [Mo.lst ds])[m.length]? = some (.lst ds) := fun ds => at_end m _
    have se : ∀ ds es : List D, (m ++ [Mo.lst ds]).set m.length (.lst es) = m ++ [.lst es] := fun ds es => set_end m _ _
    have cl : ∀ ds : List D, (∀ k, belows k ds = true) → Cl (m ++ [Mo.lst ds]) := fun ds h => hm.snoc (h _)
    have app : ∀ (k : Nat) (xs ys : List D), belows k xs = true → belows k ys = true → belows k (xs ++ ys) = true := fun k xs ys a b => by
      induction xs with
      | nil => exact b
      | cons x xs ih =>
        simp only [belows, Bool.and_eq_true] at a
        simp only [List.cons_append, belows, Bool.and_eq_true]
        exact ⟨a.1, ih a.2⟩
    have hb1 : ∀ k, belows k (acc ++ [D.bl (decide (0 ≤ t.1))]) = true := fun k => app k _ _ (hb k) rfl
    have hb2 : ∀ k, belows k (acc ++ [D.bl (decide (0 ≤ t.1))] ++ [D.bl (decide (0 ≤ t.2))]) = true := fun k => app k _ _ (hb1 k) rfl
    have c1 := between0 c hP hs hP2 t1 x0 x1 (some (pairD c P t)) x4 x5 x6 x7 (cl acc hb)
    have c2 := between0 c hP hs hP2 t2 x0 x1 (some (pairD c P t)) x4 x5 x6 x7 (cl _ hb1)
    have j : J_Survey_is_fit_1 c [x0, x1, some (pairD c P t), none, x4, x5, x6, x7] (m ++ [.lst acc]) = .ok [rat c (Rat.divInt t.1 P), rat c (Rat.divInt t.2 P)] (m ++ [.lst acc]) := by
      rw [J_Survey_is_fit_1_ap]
      unfold pairD
      obtain ⟨A, hA⟩ : ∃ x, rat c (Rat.divInt t.1 P) = x := ⟨_, rfl⟩
      obtain ⟨B, hB⟩ : ∃ x, rat c (Rat.divInt t.2 P) = x := ⟨_, rfl⟩
      rw [hA, hB]
      simp [orA]
    have ih := all_between c hP hs hP2 hm x0 x1 x4 x5 x6 x7 ts (acc ++ [D.bl (decide (0 ≤ t.1))] ++ [D.bl (decide (0 ≤ t.2))]) (fun x hx => h x (by simp [hx])) hb2 (by simp; omega)
    have i1 : dLc1 m.length (dName 3) dYes (C_Survey_is_fit_2 c) [x0, x1, some (pairD c P t), none, x4, x5, x6, x7] [rat c (Rat.divInt t.1 P), rat c (Rat.divInt t.2 P)] (m ++ [.lst acc]) = .ok () (m ++ [.lst (acc ++ [D.bl (decide (0 ≤ t.1))] ++ [D.bl (decide (0 ≤ t.2))])]) := by
      rw [lc1_step (e1 := [x0, x1, some (pairD c P t), some (rat c (Rat.divInt t.1 P)), x4, x5, x6, x7]) (by rfl) (by simp) c1 (at0 acc) (by omega), se]
      rw [lc1_step (e1 := [x0, x1, some (pairD c P t), some (rat c (Rat.divInt t.2 P)), x4, x5, x6, x7]) (by rfl) (by simp) c2 (at0 _) (by simp; omega), se]
      rfl
    rw [List.map_cons]
    unfold dLc2
    have g1 : dName 2 (pairD c P t) [x0, x1, none, none, x4, x5, x6, x7] = some [x0, x1, some (pairD c P t), none, x4, x5, x6, x7] := by rfl
    have wp : wipeE [x0, x1, some (pairD c P t), none, x4, x5, x6, x7] [3] = [x0, x1, some (pairD c P t), none, x4, x5, x6, x7] := by simp [wipeE]
    have y1 : dYes [x0, x1, some (pairD c P t), none, x4, x5, x6, x7] (m ++ [.lst acc]) = .ok true (m ++ [.lst acc]) := by simp
    rw [g1]
    dsimp only
    rw [y1]
    dsimp only
    rw [j]
    dsimp only
    rw [wp, i1]
    dsimp only [Res.bind_ok]
    rw [ih, List.flatMap_cons]
    simp [nnD]
theorem nn_all : ∀ ts : List (Int × Int), ∃ bs, toBs (ts.flatMap nnD) = some bs ∧ bs.all id = ts.all nnT
  | [] => ⟨[], rfl, rfl⟩
  | t :: ts => by
    obtain ⟨bs, h1, h2⟩ := nn_all ts
    refine ⟨decide (0 ≤ t.1) :: decide (0 ≤ t.2) :: bs, ?_, ?_⟩
    · rw [List.flatMap_cons]
      show toBs (D.bl _ :: D.bl _ :: ts.flatMap nnD) = _
      simp [toBs, h1]
    · simp only [List.all_cons, id, h2, nnT, Bool.and_assoc]
theorem names_sv (c : Cs) {rs : List Shr} (hl : rs.length ≤ 100) (fs : List Fct) (m : Mu) : F_Survey_names c [svy c P rs fs] m = .ok (.lst ((rs.map (·.1)).map .str)) m := by
  have hz : sizeLine = 16777216 := rfl
  have cm : dCompL (dTupG 2 (dGcons (dName 1) (dGcons (dName 2) dGnil))) dYes (dVar 1) [some (svy c P rs fs), none, none] (rs.map (shD c P)) m [] = .ok ((rs.map (·.1)).map .str) m := by
    rw [compL_of (F := shD c P) (f := fun r => D.str r.1) (p := fun _ => true) rs [] (fun r _ => ⟨[some (svy c P rs fs), some (.str r.1), some (rat c (Rat.divInt r.2 P))], by
      obtain ⟨Q, hQ⟩ : ∃ x, rat c (Rat.divInt r.2 P) = x := ⟨_, rfl⟩
      unfold shD
      rw [hQ]
      simp, by simp, fun _ => by simp⟩) (by simp [hz]; omega), filt_true, List.nil_append, List.map_map]
    rfl
  have hs : svy c P rs fs = .obj c.kSurvey [.tup (rs.map (shD c P)), .lst (fs.map (factD c P (rs.map (·.1)))), .dct ["out", "back"] [tabD c P (rs.length + 1) (closeT "out" rs.length fs), tabD c P (rs.length + 1) (closeT "back" rs.length fs)]] := rfl
  obtain ⟨A, hA⟩ : ∃ x, rs.map (shD c P) = x := ⟨_, rfl⟩
  obtain ⟨B, hB⟩ : ∃ x, D.lst (fs.map (factD c P (rs.map (·.1)))) = x := ⟨_, rfl⟩
  obtain ⟨C, hC⟩ : ∃ x, D.dct ["out", "back"] [tabD c P (rs.length + 1) (closeT "out" rs.length fs), tabD c P (rs.length + 1) (closeT "back" rs.length fs)] = x := ⟨_, rfl⟩
  rw [hA, hB, hC] at hs
  obtain ⟨X, hX⟩ : ∃ x, (rs.map (·.1)).map D.str = x := ⟨_, rfl⟩
  rw [hA, hX] at cm
  rw [hX]
  rw [hs] at cm ⊢
  simp [F_Survey_names, env0, wipeE, cm]
theorem is_fit_ok (c : Cs) (hP : 0 < P) (hs : s < 3000) (hP2 : Bi s P) (hm : Cl m) {rs : List Shr} (hl : rs.length ≤ 12) (hn : (rs.map (·.1)).Nodup) {fs : List Fct} (hf : ∀ f ∈ fs, FOk s rs.length f) (hfl : fs.length ≤ 1000) (ht : ∀ t ∈ ts, Bi s t.1 ∧ Bi s t.2) (htl : ts.length = rs.length) {X : D} (hX : X = .lst (ts.map (pairD c P)) ∨ X = .tup (ts.map (pairD c P))) :
    F_Survey_is_fit c [svy c P rs fs, X] m = .ok (.bl (fitB ts fs)) m := by
  have hz : sizeLine = 16777216 := rfl
  obtain ⟨xs, hxs⟩ : ∃ xs, rs.map (·.1) = xs := ⟨_, rfl⟩
  have xl : xs.length = rs.length := by rw [← hxs, List.length_map]
  have nm := fun M => names_sv c (P := P) (rs := rs) (by omega) fs M
  have il : ∀ M, F_is_list c [X] M = .ok (.bl true) M := fun M => by rcases hX with e | e <;> rw [e] <;> simp [F_is_list, env0, ans_list_tuple, tagOf, Ans.get, primNames]
  have pl : (ts.map (pairD c P)).length = rs.length := by rw [List.length_map, htl]
  have gl : ∀ M, gLen [X] M = .ok (.int rs.length) M := fun M => by rcases hX with e | e <;> rw [e] <;> simp [htl]
  have ix : ∀ a, a < xs.length → ∀ M, gIx X (.int ((a : Nat) : Int)) M = .ok (pairD c P (ts.getD a (0, 0))) M := fun a ha M => by
    have e : ts[a]? = some (ts.getD a (0, 0)) := by rw [List.getD_eq_getElem?_getD, List.getElem?_eq_getElem (by omega)]; rfl
    rcases hX with h | h
    · rw [h]; exact gIx_at (pairD c P) e M
    · rw [h]
      have q : atI (ts.map (pairD c P)) ((a : Nat) : Int) = some (pairD c P (ts.getD a (0, 0))) := by
        unfold atI; rw [ixN_nat (by rw [List.length_map]; omega)]
        show (ts.map (pairD c P))[a]? = _
        rw [List.getElem?_map, e]; rfl
      obtain ⟨TL, hTL⟩ : ∃ x, ts.map (pairD c P) = x := ⟨_, rfl⟩
      rw [hTL] at q ⊢
      simp [gIx, seqA, seqL, seqT, q]
  have it : ∀ (x0 x2 x3 x4 x5 x6 x7 : Option D) M, orA (dItL (dVar 1)) (orA (dItT (dVar 1)) (dItStr (dVar 1))) [x0, some X, x2, x3, x4, x5, x6, x7] M = .ok (ts.map (pairD c P)) M := fun x0 x2 x3 x4 x5 x6 x7 M => by
    obtain ⟨TL, hTL⟩ : ∃ x, ts.map (pairD c P) = x := ⟨_, rfl⟩
    rw [hTL] at hX ⊢
    rcases hX with h | h <;> rw [h] <;> simp [orA]
  have cm1 : ∀ (x0 x1 x3 x4 x5 x6 x7 : Option D), dCompL (dName 2) dYes (C_Survey_is_fit_1 c) [x0, x1, none, x3, x4, x5, x6, x7] (ts.map (pairD c P)) m [] = .ok (ts.map fun _ => .bl true) m := fun x0 x1 x3 x4 x5 x6 x7 => by
    rw [compL_of (F := pairD c P) (f := fun _ => D.bl true) (p := fun _ => true) ts [] (fun t _ => ⟨[x0, x1, some (pairD c P t), x3, x4, x5, x6, x7], by simp, by simp, fun _ => by
      unfold pairD
      obtain ⟨A, hA⟩ : ∃ x, rat c (Rat.divInt t.1 P) = x := ⟨_, rfl⟩
      obtain ⟨B, hB⟩ : ∃ x, rat c (Rat.divInt t.2 P) = x := ⟨_, rfl⟩
      rw [hA, hB]
      simp [C_Survey_is_fit_1_ap, ans_tuple__Ratio, tagOf, Ans.get, primNames]⟩) (by simp [hz]; omega), filt_true, List.nil_append]
  have tb := toBs_ints (fun _ : Int × Int => true) ts
  have ab := fun (x0 : Option D) => all_between c hP hs hP2 hm x0 (some X) none none none none ts [] ht (fun k => rfl) (by simp; omega)
  obtain ⟨bs, nb1, nb2⟩ := nn_all ts
  have bnn : ∀ k, belows k (ts.flatMap nnD) = true := fun k => by
    have : ∀ l : List (Int × Int), belows k (l.flatMap nnD) = true := fun l => by
      induction l with
      | nil => rfl
      | cons t l ih => rw [List.flatMap_cons]; simp only [nnD, List.cons_append, List.nil_append, belows, below, ih, Bool.and_self]
    exact this ts
  have hM1 : Cl (m ++ [Mo.lst (ts.flatMap nnD)]) := hm.snoc (bnn _)
  have lp := loop_find (g := dName 5) (b := B_Survey_is_fit_1 c) (F := factD c P xs) (m := m ++ [Mo.lst (ts.flatMap nnD)]) (fun f => !satF ts f) (.bl false) (fun e => ∃ x3 x5 x6 x7, e = [some (svy c P rs fs), some X, none, x3, some (.lst (xs.map .str)), x5, x6, x7]) fs [some (svy c P rs fs), some X, none, none, some (.lst (xs.map .str)), none, none, none] (fun f hfm e hI => by
    obtain ⟨x3, x5, x6, x7, rfl⟩ := hI
    have O := hf f hfm
    rw [← xl] at O
    obtain ⟨f1, f2⟩ := fit1_ok c hP hs hP2 hM1 (by rw [← hxs]; exact hn) O ht ix (some (svy c P rs fs)) none x3 x6 x7
    refine ⟨_, rfl, fun h => f1 (by simpa using h), fun h => ?_⟩
    obtain ⟨y3, y6, y7, h2⟩ := f2 (by simpa using h)
    exact ⟨_, h2, _, _, _, _, rfl⟩) ⟨_, _, _, _, rfl⟩
  have tk : (m ++ [Mo.lst (ts.flatMap nnD)]).take m.length = m := by simp
  have a0 := at_end m (.lst (ts.flatMap nnD))
  have hsv : svy c P rs fs = .obj c.kSurvey [.tup (rs.map (shD c P)), .lst (fs.map (factD c P xs)), .dct ["out", "back"] [tabD c P (rs.length + 1) (closeT "out" rs.length fs), tabD c P (rs.length + 1) (closeT "back" rs.length fs)]] := by rw [← hxs]; rfl
  rw [hxs] at nm
  have ff : fitB ts fs = (ts.all nnT && !(fs.any fun f => !satF ts f)) := by
    unfold fitB
    congr 1
    rw [Bool.eq_iff_iff]
    simp
  rw [ff, ← nb2]
  have sl : (rs.map (shD c P)).length = rs.length := List.length_map ..
  obtain ⟨SD, hSD⟩ : ∃ x, rs.map (shD c P) = x := ⟨_, rfl⟩
  obtain ⟨FD, hFD⟩ : ∃ x, fs.map (factD c P xs) = x := ⟨_, rfl⟩
  obtain ⟨TT, hTT⟩ : ∃ x, D.dct ["out", "back"] [tabD c P (rs.length + 1) (closeT "out" rs.length fs), tabD c P (rs.length + 1) (closeT "back" rs.length fs)] = x := ⟨_, rfl⟩
  obtain ⟨XD, hXD⟩ : ∃ x, xs.map D.str = x := ⟨_, rfl⟩
  obtain ⟨TL, hTL⟩ : ∃ x, ts.map (pairD c P) = x := ⟨_, rfl⟩
  obtain ⟨BL, hBL⟩ : ∃ x, (ts.map fun _ => D.bl true) = x := ⟨_, rfl⟩
  obtain ⟨BT, hBT⟩ : ∃ x, (ts.map fun _ => true) = x := ⟨_, rfl⟩
  have btt : BT.all id = true := by rw [← hBT]; simp
  obtain ⟨NN, hNN⟩ : ∃ x, ts.flatMap nnD = x := ⟨_, rfl⟩
  rw [hSD, hFD, hTT] at hsv
  rw [hSD] at sl
  rw [hXD] at nm
  rw [hFD, hNN, hXD, hsv] at lp
  simp only [hTL] at it
  simp only [hTL, hBL] at cm1
  rw [hBL, hBT] at tb
  rw [hNN] at nb1 tk a0 
  simp only [hTL, hNN, List.nil_append] at ab
  rw [hsv] at nm ⊢
  obtain ⟨N, hN⟩ : ∃ x : Int, ((rs.length : Nat) : Int) = x := ⟨_, rfl⟩
  rw [hN] at gl
  have gs : ∀ M, gLen [.tup SD] M = .ok (.int N) M := fun M => by simp [sl, hN]
  have ga : gAll [.lst BL] m = .ok (.bl true) m := by simp [gAll, seqL, tb, btt]
  obtain ⟨L, hL⟩ : ∃ x, m.length = x := ⟨_, rfl⟩
  obtain ⟨M1, hM1'⟩ : ∃ x, m ++ [Mo.lst NN] = x := ⟨_, rfl⟩
  rw [hM1', hL] at a0 tk
  rw [hL, hM1'] at ab
  rw [hM1'] at lp
  have gb : gAll [.loc L] M1 = .ok (.bl (bs.all id)) M1 := by simp [gAll, seqL, a0, nb1]
  have zp : ∀ b : Bool, zapR L (.ok (.bl b) M1) = .ok (.bl b) m := fun b => by
    unfold zapR
    dsimp only
    rw [tk, if_pos ⟨hm, hL⟩]
    rfl
  have e0 : (env0 8 [D.obj c.kSurvey [.tup SD, .lst FD, TT], X] : En) = [some (.obj c.kSurvey [.tup SD, .lst FD, TT]), some X, none, none, none, none, none, none] := by simp [env0]
  obtain ⟨SV, hSV⟩ : ∃ x, D.obj c.kSurvey [.tup SD, .lst FD, TT] = x := ⟨_, rfl⟩
  have fl0 : dFld [(c.kSurvey, 0)] (dVar 0) [some SV, some X, none, none, none, none, none, none] m = .ok (.tup SD) m := by rw [← hSV]; simp
  have fl1 : ∀ x4, dFld [(c.kSurvey, 1)] (dVar 0) [some SV, some X, none, none, x4, none, none, none] M1 = .ok (.lst FD) M1 := fun x4 => by rw [← hSV]; simp
  have iv : insOf M1 SV = some (c.cSurvey, nsSurvey, [.tup SD, .lst FD, TT]) := by rw [← hSV]; rfl
  rw [hSV] at nm lp e0 ⊢
  have nm := nm M1
  have s1 : dIfS (dOrT (dNotT (dTst (dFun (padF 1 [] (F_is_list c)) (dCons (dVar 1) dNil)))) (dTst (dBin gNe (dFun gLen (dCons (dVar 1) dNil)) (dFun gLen (dCons (dFld [(c.kSurvey, 0)] (dVar 0)) dNil))))) (dRet (dC (.bl false))) dSkip [some SV, some X, none, none, none, none, none, none] m = .nx [some SV, some X, none, none, none, none, none, none] m := by
    simp [il, -gLen_ap, gl, -dFld_ap, fl0, gs, gNe, scEq]
  have s2 : dIfS (dNotT (dTst (dFun gAll (dCons (dComp (orA (dItL (dVar 1)) (orA (dItT (dVar 1)) (dItStr (dVar 1)))) (dName 2) dYes (C_Survey_is_fit_1 c) [2]) dNil)))) (dRet (dC (.bl false))) dSkip [some SV, some X, none, none, none, none, none, none] m = .nx [some SV, some X, none, none, none, none, none, none] m := by
    have dc : dComp (orA (dItL (dVar 1)) (orA (dItT (dVar 1)) (dItStr (dVar 1)))) (dName 2) dYes (C_Survey_is_fit_1 c) [2] [some SV, some X, none, none, none, none, none, none] m = .ok (.lst BL) m := by
      rw [dComp_ap, it]
      simp [wipeE, cm1]
    simp [-dComp_ap, dc, -gAll_ap, ga]
  have d2 : dComp2 (orA (dItL (dVar 1)) (orA (dItT (dVar 1)) (dItStr (dVar 1)))) (dName 2) dYes (J_Survey_is_fit_1 c) (dName 3) dYes (C_Survey_is_fit_2 c) [2, 3] [3] [some SV, some X, none, none, none, none, none, none] m = .ok (.loc L) M1 := by
    rw [dComp2_ap, it]
    have wp : wipeE [some SV, some X, none, none, none, none, none, none] [2, 3] = [some SV, some X, none, none, none, none, none, none] := by simp [wipeE]
    simp only [Res.bind_ok]
    rw [wp, hL, ab]
    rfl
  have s3 : ∀ b, bs.all id = b → dIfS (dNotT (dTst (dFun gAll (dCons (dComp2 (orA (dItL (dVar 1)) (orA (dItT (dVar 1)) (dItStr (dVar 1)))) (dName 2) dYes (J_Survey_is_fit_1 c) (dName 3) dYes (C_Survey_is_fit_2 c) [2, 3] [3]) dNil)))) (dRet (dC (.bl false))) dSkip [some SV, some X, none, none, none, none, none, none] m = if b then .nx [some SV, some X, none, none, none, none, none, none] M1 else .rt (.bl false) M1 := fun b hb => by
    rw [hb] at gb
    cases b <;> simp [-dComp2_ap, d2, -gAll_ap, gb]
  have s4 : dSet 4 (dMeth [(c.kSurvey, padF 1 [] (F_Survey_names c))] (dVar 0) dNil) [some SV, some X, none, none, none, none, none, none] M1 = .nx [some SV, some X, none, none, some (.lst XD), none, none, none] M1 := by
    simp [dMeth, methAt, iv, nm]
  unfold F_Survey_is_fit
  rw [dZap_eq, dFn_ap, hL, e0, dSeq_nx s1, dSeq_nx s2]
  cases hq : bs.all id with
  | false =>
    rw [dSeq_rS (s3 _ hq)]
    exact zp false
  | true =>
    rw [dSeq_nx (s3 _ hq), dSeq_nx s4]
    rcases lp with ⟨z1, z2⟩ | ⟨z1, e2, z2, _⟩
    · rw [z1, dSeq_rS (dFor_isT (by simp [-dFld_ap, fl1]) z2)]
      exact zp false
    · rw [z1, dSeq_nx (dFor_isT (by simp [-dFld_ap, fl1]) z2)]
      exact zp true
end
end W
set_option maxHeartbeats 8000000
namespace W
open PySem PySem.Spec L2 DL
section
variable {xs : List Str} {ts : List (Int × Int)}
theorem ixT {ts : List (Int × Int)} {a : Nat} (ha : a < ts.length) (M : Mu) : gIx (.lst (ts.map timeD)) (.int ((a : Nat) : Int)) M = .ok (timeD (ts.getD a (0, 0))) M := gIx_at timeD (by rw [List.getD_eq_getElem?_getD, List.getElem?_eq_getElem ha]; rfl) M
theorem lheld_ok (c : Cs) (hn : xs.Nodup) {kd : Str} (hk : kd = "out" ∨ kd = "back") (htl : ts.length = xs.length) {a : Nat} (ha : a < xs.length) (x1 x4 x5 x6 x7 x9 x10 : Option D) (M : Mu) :
    C_w_is_fit_1 c [some (.lst (xs.map .str)), x1, some (.lst (ts.map timeD)), some (.str kd), x4, x5, x6, x7, some (.str (xs.getD a Str.empty)), x9, x10] M = .ok (.int (TM ts kd (a + 1))) M := by
  have id := index_ok hn ha M
  have h1 := ixT (ts := ts) (a := a) (by omega) M
  have ne : ¬ ("out" : Str) = "back" := by decide +kernel
  have g0 : gEq (.str kd) (.str "back") M = .ok (.bl (decide (kd = "back"))) M := by simp [gEq, scEq]
  have gi : gInt [.bl (decide (kd = "back"))] M = .ok (.int (if kd = "out" then 0 else 1)) M := by
    rcases hk with e | e
    · rw [e, decide_eq_false ne, if_pos rfl]; rfl
    · rw [e, decide_eq_true rfl, if_neg (fun z => ne z.symm)]; rfl
  have g2 : gIx (timeD (ts.getD a (0, 0))) (.int (if kd = "out" then 0 else 1)) M = .ok (.int (TM ts kd (a + 1))) M := by
    rw [TM_at]
    by_cases e : kd = "out"
    · rw [if_pos e, if_pos e]; rfl
    · rw [if_neg e, if_neg e]; rfl
  obtain ⟨NA, hNA⟩ : ∃ x, xs.getD a Str.empty = x := ⟨_, rfl⟩
  obtain ⟨XD, hXD⟩ : ∃ x, xs.map D.str = x := ⟨_, rfl⟩
  obtain ⟨TL, hTL⟩ : ∃ x, ts.map timeD = x := ⟨_, rfl⟩
  obtain ⟨PD, hPD⟩ : ∃ x, timeD (ts.getD a (0, 0)) = x := ⟨_, rfl⟩
  obtain ⟨V, hV⟩ : ∃ x, TM ts kd (a + 1) = x := ⟨_, rfl⟩
  obtain ⟨KI, hKI⟩ : ∃ x : Int, (if kd = "out" then 0 else 1) = x := ⟨_, rfl⟩
  obtain ⟨AI, hAI⟩ : ∃ x : Int, ((a : Nat) : Int) = x := ⟨_, rfl⟩
  rw [hNA, hXD, hAI] at id
  rw [hTL, hPD, hAI] at h1
  rw [hPD, hV, hKI] at g2
  rw [hKI] at gi
  obtain ⟨BK, hBK⟩ : ∃ x, decide (kd = "back") = x := ⟨_, rfl⟩
  rw [hBK] at g0 gi
  rw [hNA, hXD, hTL, hV, C_w_is_fit_1_ap]
  have ci : dFun gInt (dCons (dBin gEq (dVar 3) (dC (.str "back"))) dNil) [some (.lst XD), x1, some (.lst TL), some (.str kd), x4, x5, x6, x7, some (.str NA), x9, x10] M = .ok (.int KI) M := by
    simp [-orD_ap, -gInt_ap, g0, gi]
  simp [id, h1, -dFun_ap, ci, g2]
theorem look_tail {lo hi : Option Int} {t : Int} (x0 x1 x2 x3 x4 x7 x8 x10 : Option D) (m : Mu) : dIfS (dOrT (dAndT (dTst (dBin gNotN (dVar 5) (dC .non))) (dTst (dBin gLt (dVar 9) (dVar 5)))) (dAndT (dTst (dBin gNotN (dVar 6) (dC .non))) (dTst (dBin gGt (dVar 9) (dVar 6))))) (dRet (dC (.bl false))) dSkip [x0, x1, x2, x3, x4, some (optI lo), some (optI hi), x7, x8, some (.int t), x10] m = if okLo lo t && okHi hi t then .nx [x0, x1, x2, x3, x4, some (optI lo), some (optI hi), x7, x8, some (.int t), x10] m else .rt (.bl false) m := by
  cases lo with
  | none =>
    cases hi with
    | none => simp [optI, okLo, okHi]
    | some h =>
      by_cases e : h < t
      · have e2 : ¬ t ≤ h := by omega
        simp [optI, okLo, okHi, e, e2]
      · have e2 : t ≤ h := by omega
        simp [optI, okLo, okHi, e, e2]
  | some l =>
    by_cases e1 : t < l
    · have e3 : ¬ l ≤ t := by omega
      simp [optI, okLo, okHi, e1, e3]
    · have e3 : l ≤ t := by omega
      cases hi with
      | none => simp [optI, okLo, okHi, e1, e3]
      | some h =>
        by_cases e : h < t
        · have e2 : ¬ t ≤ h := by omega
          simp [optI, okLo, okHi, e, e2, e1, e3]
        · have e2 : t ≤ h := by omega
          simp [optI, okLo, okHi, e, e2, e1, e3]
theorem look1_ok (c : Cs) (hn : xs.Nodup) {s : Nat} {f : Fct} (hf : FOk s xs.length f) (htl : ts.length = xs.length) (x1 x7 x8 x9 x10 : Option D) (m : Mu) :
    ∃ y7 y9, B_w_is_fit_1 c [some (.lst (xs.map .str)), x1, some (.lst (ts.map timeD)), some (.str f.kd), some (.tup (f.hs.map fun a => .str (xs.getD a Str.empty))), some (optI f.lo), some (optI f.hi), x7, x8, x9, x10] m =
      if satF ts f then .nx [some (.lst (xs.map .str)), x1, some (.lst (ts.map timeD)), some (.str f.kd), some (.tup (f.hs.map fun a => .str (xs.getD a Str.empty))), some (optI f.lo), some (optI f.hi), y7, x8, y9, x10] m else .rt (.bl false) m := by
  have hz : sizeLine = 16777216 := rfl
  rcases hf.hs with ⟨a, e, ha⟩ | ⟨a, b, e, ha, hb, hab⟩
  · have h3 := lheld_ok c hn hf.kd htl ha
    have dt : dT ts f = TM ts f.kd (a + 1) := by unfold dT spotF; rw [e]; exact Int.sub_zero _
    refine ⟨some (.lst [.int (dT ts f)]), some (.int (dT ts f)), ?_⟩
    unfold satF
    rw [← look_tail, e, B_w_is_fit_1_ap]
    rw [← dt] at h3
    show dSeq _ _ [some (.lst (xs.map .str)), x1, some (.lst (ts.map timeD)), some (.str f.kd), some (.tup [.str (xs.getD a Str.empty)]), some (optI f.lo), some (optI f.hi), x7, x8, x9, x10] m = _
    obtain ⟨NA, hNA⟩ : ∃ x, xs.getD a Str.empty = x := ⟨_, rfl⟩
    obtain ⟨XD, hXD⟩ : ∃ x, xs.map D.str = x := ⟨_, rfl⟩
    obtain ⟨TL, hTL⟩ : ∃ x, ts.map timeD = x := ⟨_, rfl⟩
    obtain ⟨LO, hLO⟩ : ∃ x, optI f.lo = x := ⟨_, rfl⟩
    obtain ⟨HI, hHI⟩ : ∃ x, optI f.hi = x := ⟨_, rfl⟩
    obtain ⟨T, hT⟩ : ∃ x, dT ts f = x := ⟨_, rfl⟩
    rw [hNA, hXD, hTL, hT] at h3
    have ft : (f.hs.map fun a => D.str (xs.getD a Str.empty)) = [.str NA] := by rw [e, ← hNA]; rfl
    rw [← e, ft, hNA, hXD, hTL, hLO, hHI, hT]
    refine (dSeq_nx (e1 := [some (.lst XD), x1, some (.lst TL), some (.str f.kd), some (.tup [.str NA]), some LO, some HI, some (.lst [.int T]), x8, x9, x10]) (m1 := m) ?_).trans ?_
    · simp [h3, wipeE, hz]
    refine (dSeq_nx (e1 := [some (.lst XD), x1, some (.lst TL), some (.str f.kd), some (.tup [.str NA]), some LO, some HI, some (.lst [.int T]), x8, some (.int T), x10]) (m1 := m) ?_).trans ?_
    · simp
    rfl
  · have h3 := lheld_ok c hn hf.kd htl ha
    have h4 := lheld_ok c hn hf.kd htl hb
    have dt : dT ts f = TM ts f.kd (b + 1) - TM ts f.kd (a + 1) := by unfold dT spotF; rw [e]
    refine ⟨some (.lst [.int (TM ts f.kd (a + 1)), .int (TM ts f.kd (b + 1))]), some (.int (dT ts f)), ?_⟩
    unfold satF
    rw [← look_tail, B_w_is_fit_1_ap]
    have ft : (f.hs.map fun a => D.str (xs.getD a Str.empty)) = [.str (xs.getD a Str.empty), .str (xs.getD b Str.empty)] := by rw [e]; rfl
    rw [ft]
    obtain ⟨NA, hNA⟩ : ∃ x, xs.getD a Str.empty = x := ⟨_, rfl⟩
    obtain ⟨NB, hNB⟩ : ∃ x, xs.getD b Str.empty = x := ⟨_, rfl⟩
    obtain ⟨XD, hXD⟩ : ∃ x, xs.map D.str = x := ⟨_, rfl⟩
    obtain ⟨TL, hTL⟩ : ∃ x, ts.map timeD = x := ⟨_, rfl⟩
    obtain ⟨LO, hLO⟩ : ∃ x, optI f.lo = x := ⟨_, rfl⟩
    obtain ⟨HI, hHI⟩ : ∃ x, optI f.hi = x := ⟨_, rfl⟩
    obtain ⟨TA, hTA⟩ : ∃ x, TM ts f.kd (a + 1) = x := ⟨_, rfl⟩
    obtain ⟨TB, hTB⟩ : ∃ x, TM ts f.kd (b + 1) = x := ⟨_, rfl⟩
    rw [hTA, hTB] at dt
    rw [hNA, hXD, hTL, hTA] at h3
    rw [hNB, hXD, hTL, hTB] at h4
    rw [hNA, hNB, hXD, hTL, hLO, hHI, dt, hTA, hTB]
    refine (dSeq_nx (e1 := [some (.lst XD), x1, some (.lst TL), some (.str f.kd), some (.tup [.str NA, .str NB]), some LO, some HI, some (.lst [.int TA, .int TB]), x8, x9, x10]) (m1 := m) ?_).trans ?_
    · simp [h3, h4, wipeE, hz]
    refine (dSeq_nx (e1 := [some (.lst XD), x1, some (.lst TL), some (.str f.kd), some (.tup [.str NA, .str NB]), some LO, some HI, some (.lst [.int TA, .int TB]), x8, some (.int (TB - TA)), x10]) (m1 := m) ?_).trans ?_
    · simp
    rfl
theorem w_is_fit_ok (c : Cs) (hn : xs.Nodup) (hl : xs.length ≤ 100) {s : Nat} {fs : List Fct} (hf : ∀ f ∈ fs, FOk s xs.length f) (htl : ts.length = xs.length) (m : Mu) :
    F_w_is_fit c [.lst (xs.map .str), .lst (fs.map (factL xs)), .lst (ts.map timeD)] m = .ok (.bl (fitB ts fs)) m := by
  have hz : sizeLine = 16777216 := rfl
  have lp := loop_find (g := dTupG 4 (dGcons (dName 3) (dGcons (dName 4) (dGcons (dName 5) (dGcons (dName 6) dGnil))))) (b := B_w_is_fit_1 c) (F := factL xs) (m := m) (fun f => !satF ts f) (.bl false) (fun e => ∃ x3 x4 x5 x6 x7 x9, e = [some (.lst (xs.map .str)), some (.lst (fs.map (factL xs))), some (.lst (ts.map timeD)), x3, x4, x5, x6, x7, none, x9, none]) fs [some (.lst (xs.map .str)), some (.lst (fs.map (factL xs))), some (.lst (ts.map timeD)), none, none, none, none, none, none, none, none] (fun f hfm e hI => by
    obtain ⟨x3, x4, x5, x6, x7, x9, rfl⟩ := hI
    obtain ⟨y7, y9, st⟩ := look1_ok c hn (hf f hfm) htl (some (.lst (fs.map (factL xs)))) x7 none x9 none m
    refine ⟨[some (.lst (xs.map .str)), some (.lst (fs.map (factL xs))), some (.lst (ts.map timeD)), some (.str f.kd), some (.tup (f.hs.map fun a => .str (xs.getD a Str.empty))), some (optI f.lo), some (optI f.hi), x7, none, x9, none], ?_, fun h => ?_, fun h => ?_⟩
    · unfold factL
      obtain ⟨A, hA⟩ : ∃ x, optI f.lo = x := ⟨_, rfl⟩
      obtain ⟨B, hB⟩ : ∃ x, optI f.hi = x := ⟨_, rfl⟩
      obtain ⟨C, hC⟩ : ∃ x, (f.hs.map fun a => D.str (xs.getD a Str.empty)) = x := ⟨_, rfl⟩
      rw [hA, hB, hC]
      rfl
    · rw [st, if_neg (by simpa using h)]
    · rw [st, if_pos (by simpa using h)]
      exact ⟨_, rfl, _, _, _, _, _, _, rfl⟩) ⟨_, _, _, _, _, _, rfl⟩
  have cm : ∀ (x0 x1 x2 x3 x4 x5 x6 x7 x8 x9 : Option D), dCompL (dName 10) dYes (C_w_is_fit_2 c) [x0, x1, x2, x3, x4, x5, x6, x7, x8, x9, none] (ts.map timeD) m [] = .ok (ts.map fun t => .bl (nnT t)) m := fun x0 x1 x2 x3 x4 x5 x6 x7 x8 x9 => by
    rw [compL_of (F := timeD) (f := fun t => D.bl (nnT t)) (p := fun _ => true) ts [] (fun t _ => ⟨[x0, x1, x2, x3, x4, x5, x6, x7, x8, x9, some (timeD t)], by simp, by simp, fun _ => by
      rw [C_w_is_fit_2_ap]
      unfold timeD nnT
      by_cases h : 0 ≤ t.1
      · simp [h]
      · simp [h]⟩) (by simp [hz]; omega), filt_true, List.nil_append]
  have tb := toBs_ints nnT ts
  have ff : fitB ts fs = (!(fs.any fun f => !satF ts f) && ts.all nnT) := by
    unfold fitB
    rw [Bool.and_comm]
    congr 1
    rw [Bool.eq_iff_iff]
    simp
  rw [ff]
  obtain ⟨XD, hXD⟩ : ∃ x, xs.map D.str = x := ⟨_, rfl⟩
  obtain ⟨FL, hFL⟩ : ∃ x, fs.map (factL xs) = x := ⟨_, rfl⟩
  obtain ⟨TL, hTL⟩ : ∃ x, ts.map timeD = x := ⟨_, rfl⟩
  obtain ⟨BL, hBL⟩ : ∃ x, (ts.map fun t => D.bl (nnT t)) = x := ⟨_, rfl⟩
  rw [hXD, hFL, hTL] at lp
  simp only [hTL, hBL] at cm
  rw [hBL] at tb
  rw [hXD, hFL, hTL]
  have bo : (ts.map nnT).all id = ts.all nnT := by rw [List.all_map]; rfl
  have ga : gAll [.lst BL] m = .ok (.bl (ts.all nnT)) m := by simp [gAll, seqL, tb]
  unfold F_w_is_fit
  have e0 : (env0 11 [D.lst XD, .lst FL, .lst TL] : En) = [some (.lst XD), some (.lst FL), some (.lst TL), none, none, none, none, none, none, none, none] := by simp [env0]
  rw [dFn_ap, e0]
  rcases lp with ⟨z1, z2⟩ | ⟨z1, e2, z2, x3, x4, x5, x6, x7, x9, rfl⟩
  · rw [z1, dSeq_rS (forS_lst (by simp) z2)]
    rfl
  · rw [z1, dSeq_nx (forS_lst (by simp) z2)]
    have dc : dComp (dItL (dVar 2)) (dName 10) dYes (C_w_is_fit_2 c) [10] [some (.lst XD), some (.lst FL), some (.lst TL), x3, x4, x5, x6, x7, none, x9, none] m = .ok (.lst BL) m := by
      rw [dComp_ap]
      simp [wipeE, cm]
    simp [-dComp_ap, dc, -gAll_ap, ga]
end
end W
set_option maxHeartbeats 8000000
namespace W
open PySem PySem.Spec L2 DL
section
variable {P : Int} {s : Nat} {m : Mu}
theorem svy_obj (c : Cs) (P : Int) (rs : List Shr) (fs : List Fct) : ∃ SD FD T : D, ∃ sd : List D, svy c P rs fs = .obj c.kSurvey [SD, FD, T] ∧ SD = .tup sd ∧ sd.length = rs.length := ⟨_, _, _, _, rfl, rfl, by simp⟩
theorem zap_bl {m M1 : Mu} (b : Bool) (hm : Cl m) (tk : M1.take m.length = m) : zapR m.length (.ok (.bl b) M1) = .ok (.bl b) m := by
  unfold zapR
  dsimp only
  rw [tk, if_pos ⟨hm, rfl⟩]
  rfl
theorem fit_no1 (c : Cs) (hm : Cl m) (rs : List Shr) (fs : List Fct) {X : D} (hX : F_is_list c [X] m = .ok (.bl false) m) : F_Survey_is_fit c [svy c P rs fs, X] m = .ok (.bl false) m := by
  obtain ⟨SV, hSV⟩ : ∃ x, svy c P rs fs = x := ⟨_, rfl⟩
  rw [hSV]
  unfold F_Survey_is_fit
  have e0 : (env0 8 [SV, X] : En) = [some SV, some X, none, none, none, none, none, none] := by simp [env0]
  have cg := call_gen (n := 1) (t := dCons (dVar 1) dNil) (e := [some SV, some X, none, none, none, none, none, none]) (m := m) (ds := [X]) (by simp) rfl hX
  rw [dZap_eq, dFn_ap, e0, dSeq_rS (d := .bl false) (m1 := m) (by simp [-dFun_ap, cg])]
  exact zap_bl false hm (by simp)
theorem fit_no2 (c : Cs) (hm : Cl m) {rs : List Shr} (hr : rs.length ≤ 100) (fs : List Fct) {zs : List D} (hl : zs.length ≠ rs.length) (hz : zs.length ≤ 1000) : F_Survey_is_fit c [svy c P rs fs, .lst zs] m = .ok (.bl false) m := by
  obtain ⟨SD, FD, T, sd, h1, h2, h3⟩ := svy_obj c P rs fs
  subst h2
  have il : F_is_list c [.lst zs] m = .ok (.bl true) m := by simp [F_is_list, env0, ans_list_tuple, tagOf, Ans.get, primNames]
  have fl0 : dFld [(c.kSurvey, 0)] (dVar 0) [some (svy c P rs fs), some (.lst zs), none, none, none, none, none, none] m = .ok (.tup sd) m := by rw [h1]; simp
  obtain ⟨SV, hSV⟩ : ∃ x, svy c P rs fs = x := ⟨_, rfl⟩
  rw [hSV] at fl0 ⊢
  unfold F_Survey_is_fit
  have e0 : (env0 8 [SV, .lst zs] : En) = [some SV, some (.lst zs), none, none, none, none, none, none] := by simp [env0]
  have cg := call_gen (n := 1) (t := dCons (dVar 1) dNil) (e := [some SV, some (.lst zs), none, none, none, none, none, none]) (m := m) (ds := [.lst zs]) (by simp) rfl il
  have ne : ¬ zs.length = sd.length := by omega
  have gn : gNe (.int (zs.length : Nat)) (.int (sd.length : Nat)) m = .ok (.bl true) m := by
    have : ¬ ((zs.length : Nat) : Int) = ((sd.length : Nat) : Int) := by omega
    simp [gNe, scEq, this]
  obtain ⟨A, hA⟩ : ∃ x : Int, ((zs.length : Nat) : Int) = x := ⟨_, rfl⟩
  obtain ⟨B, hB⟩ : ∃ x : Int, ((sd.length : Nat) : Int) = x := ⟨_, rfl⟩
  rw [hA, hB] at gn
  have g1 : gLen [.lst zs] m = .ok (.int A) m := by rw [← hA]; simp
  have g2 : gLen [.tup sd] m = .ok (.int B) m := by rw [← hB]; simp
  rw [dZap_eq, dFn_ap, e0, dSeq_rS (d := .bl false) (m1 := m) (by simp [-dFun_ap, dFun_ap gLen, cg, -dFld_ap, fl0, -gLen_ap, g1, g2, -orD_ap, gn])]
  exact zap_bl false hm (by simp)
theorem all_betweenG (c : Cs) (hm : Cl m) {α : Type} (A B : α → D) (b1 b2 : α → Bool) (x0 x1 x4 x5 x6 x7 : Option D) : ∀ (ts : List α) (acc : List D),
    (∀ t ∈ ts, ∀ x2 M, Cl M → C_Survey_is_fit_2 c [x0, x1, x2, some (A t), x4, x5, x6, x7] M = .ok (.bl (b1 t)) M ∧ C_Survey_is_fit_2 c [x0, x1, x2, some (B t), x4, x5, x6, x7] M = .ok (.bl (b2 t)) M) → (∀ k, belows k acc = true) → acc.length + 2 * ts.length ≤ 5000 →
    dLc2 m.length (dName 2) dYes (J_Survey_is_fit_1 c) (dName 3) dYes (C_Survey_is_fit_2 c) [3] [x0, x1, none, none, x4, x5, x6, x7] (ts.map fun t => .tup [A t, B t]) (m ++ [.lst acc]) = .ok () (m ++ [.lst (acc ++ ts.flatMap fun t => [.bl (b1 t), .bl (b2 t)])])
  | [], acc, _, _, _ => by simp [dLc2]
  | t :: ts, acc, h, hb, hl => by
    simp only [List.length_cons] at hl
    have at0 : ∀ ds : List D, (m ++ [Mo.lst ds])[m.length]? = some (.lst ds) := fun ds => at_end m _
    have se : ∀ ds es : List D, (m ++ [Mo.lst ds]).set m.length (.lst es) = m ++ [.lst es] := fun ds es => set_end m _ _
    have cl : ∀ ds : List D, (∀ k, belows k ds = true) → Cl (m ++ [Mo.lst ds]) := fun ds h => hm.snoc (h _)
    have app : ∀ (k : Nat) (xs ys : List D), belows k xs = true → belows k ys = true → belows k (xs ++ ys) = true := fun k xs ys a b => by
      induction xs with
      | nil => exact b
      | cons x xs ih =>
        simp only [belows, Bool.and_eq_true] at a
        simp only [List.cons_append, belows, Bool.and_eq_true]
        exact ⟨a.1, ih a.2⟩
    have hb1 : ∀ k, belows k (acc ++ [D.bl (b1 t)]) = true := fun k => app k _ _ (hb k) rfl
    have hb2 : ∀ k, belows k (acc ++ [D.bl (b1 t)] ++ [D.bl (b2 t)]) = true := fun k => app k _ _ (hb1 k) rfl
    have c1 := (h t (by simp) (some (.tup [A t, B t])) _ (cl acc hb)).1
    have c2 := (h t (by simp) (some (.tup [A t, B t])) _ (cl _ hb1)).2
    have j : J_Survey_is_fit_1 c [x0, x1, some (.tup [A t, B t]), none, x4, x5, x6, x7] (m ++ [.lst acc]) = .ok [A t, B t] (m ++ [.lst acc]) := by
      rw [J_Survey_is_fit_1_ap]
      simp [orA]
    have ih := all_betweenG c hm A B b1 b2 x0 x1 x4 x5 x6 x7 ts (acc ++ [D.bl (b1 t)] ++ [D.bl (b2 t)]) (fun x hx => h x (by simp [hx])) hb2 (by simp; omega)
    have i1 : dLc1 m.length (dName 3) dYes (C_Survey_is_fit_2 c) [x0, x1, some (.tup [A t, B t]), none, x4, x5, x6, x7] [A t, B t] (m ++ [.lst acc]) = .ok () (m ++ [.lst (acc ++ [D.bl (b1 t)] ++ [D.bl (b2 t)])]) := by
      rw [lc1_step (e1 := [x0, x1, some (.tup [A t, B t]), some (A t), x4, x5, x6, x7]) (by rfl) (by simp) c1 (at0 acc) (by omega), se]
      rw [lc1_step (e1 := [x0, x1, some (.tup [A t, B t]), some (B t), x4, x5, x6, x7]) (by rfl) (by simp) c2 (at0 _) (by simp; omega), se]
      rfl
    rw [List.map_cons]
    unfold dLc2
    have g1 : dName 2 (.tup [A t, B t]) [x0, x1, none, none, x4, x5, x6, x7] = some [x0, x1, some (.tup [A t, B t]), none, x4, x5, x6, x7] := by rfl
    have wp : wipeE [x0, x1, some (.tup [A t, B t]), none, x4, x5, x6, x7] [3] = [x0, x1, some (.tup [A t, B t]), none, x4, x5, x6, x7] := by simp [wipeE]
    have y1 : dYes [x0, x1, some (.tup [A t, B t]), none, x4, x5, x6, x7] (m ++ [.lst acc]) = .ok true (m ++ [.lst acc]) := by simp
    rw [g1]
    dsimp only
    rw [y1]
    dsimp only
    rw [j]
    dsimp only
    rw [wp, i1]
    dsimp only [Res.bind_ok]
    rw [ih, List.flatMap_cons]
    simp
theorem toBs_two {α : Type} (b1 b2 : α → Bool) : ∀ ts : List α, toBs (ts.flatMap fun t => [D.bl (b1 t), .bl (b2 t)]) = some (ts.flatMap fun t => [b1 t, b2 t])
  | [] => rfl
  | t :: ts => by
    rw [List.flatMap_cons, List.flatMap_cons]
    show toBs (D.bl _ :: D.bl _ :: ts.flatMap _) = _
    simp [toBs, toBs_two b1 b2 ts]
theorem fit_lenS (c : Cs) {rs : List Shr} (fs : List Fct) {ds : List D} (hl : ds.length = rs.length) (u : DS) : dSeq (dIfS (dOrT (dNotT (dTst (dFun (padF 1 [] (F_is_list c)) (dCons (dVar 1) dNil)))) (dTst (dBin gNe (dFun gLen (dCons (dVar 1) dNil)) (dFun gLen (dCons (dFld [(c.kSurvey, 0)] (dVar 0)) dNil))))) (dRet (dC (.bl false))) dSkip) u [some (svy c P rs fs), some (.lst ds), none, none, none, none, none, none] m = u [some (svy c P rs fs), some (.lst ds), none, none, none, none, none, none] m := by
  obtain ⟨SD, FD, T, sd, h1, h2, h3⟩ := svy_obj c P rs fs
  subst h2
  have il : F_is_list c [.lst ds] m = .ok (.bl true) m := by simp [F_is_list, env0, ans_list_tuple, tagOf, Ans.get, primNames]
  have fl0 : dFld [(c.kSurvey, 0)] (dVar 0) [some (svy c P rs fs), some (.lst ds), none, none, none, none, none, none] m = .ok (.tup sd) m := by rw [h1]; simp
  obtain ⟨SV, hSV⟩ : ∃ x, svy c P rs fs = x := ⟨_, rfl⟩
  rw [hSV] at fl0 ⊢
  have cg := call_gen (n := 1) (t := dCons (dVar 1) dNil) (e := [some SV, some (.lst ds), none, none, none, none, none, none]) (m := m) (ds := [.lst ds]) (by simp) rfl il
  have g1 : gLen [.lst ds] m = .ok (.int (rs.length : Nat)) m := by rw [← hl]; simp
  have g2 : gLen [.tup sd] m = .ok (.int (rs.length : Nat)) m := by rw [← h3]; simp
  obtain ⟨A, hA⟩ : ∃ x : Int, ((rs.length : Nat) : Int) = x := ⟨_, rfl⟩
  rw [hA] at g1 g2
  have gn : gNe (.int A) (.int A) m = .ok (.bl false) m := by simp [gNe, scEq]
  exact dSeq_nx (by simp [-dFun_ap, dFun_ap gLen, cg, -dFld_ap, fl0, -gLen_ap, g1, g2, -orD_ap, gn])
theorem fit_no3 (c : Cs) (hm : Cl m) {rs : List Shr} (fs : List Fct) {α : Type} {F : α → D} {ys : List α} (hl : ys.length = rs.length) (h0 : ys ≠ []) (hy : ys.length ≤ 1000) (hF : ∀ y ∈ ys, ∀ x0 x1 x3 x4 x5 x6 x7, C_Survey_is_fit_1 c [x0, x1, some (F y), x3, x4, x5, x6, x7] m = .ok (.bl false) m) : F_Survey_is_fit c [svy c P rs fs, .lst (ys.map F)] m = .ok (.bl false) m := by
  have hz : sizeLine = 16777216 := rfl
  unfold F_Survey_is_fit
  have e0 : (env0 8 [svy c P rs fs, .lst (ys.map F)] : En) = [some (svy c P rs fs), some (.lst (ys.map F)), none, none, none, none, none, none] := by simp [env0]
  rw [dZap_eq, dFn_ap, e0, fit_lenS c fs (by rw [List.length_map]; exact hl)]
  have cm : dCompL (dName 2) dYes (C_Survey_is_fit_1 c) [some (svy c P rs fs), some (.lst (ys.map F)), none, none, none, none, none, none] (ys.map F) m [] = .ok (ys.map fun _ => .bl false) m := by
    rw [compL_of (F := F) (f := fun _ => D.bl false) (p := fun _ => true) ys [] (fun y hy => ⟨[some (svy c P rs fs), some (.lst (ys.map F)), some (F y), none, none, none, none, none], by simp, by simp, fun _ => hF y hy _ _ _ _ _ _ _⟩) (by simp [hz]; omega), filt_true, List.nil_append]
  have tb := toBs_ints (fun _ : α => false) ys
  have nb : (ys.map fun _ => false).all id = false := by
    obtain ⟨y, r, rfl⟩ := List.exists_cons_of_ne_nil h0
    rfl
  obtain ⟨SV, hSV⟩ : ∃ x, svy c P rs fs = x := ⟨_, rfl⟩
  obtain ⟨YL, hYL⟩ : ∃ x, ys.map F = x := ⟨_, rfl⟩
  obtain ⟨BL, hBL⟩ : ∃ x, (ys.map fun _ => D.bl false) = x := ⟨_, rfl⟩
  obtain ⟨BB, hBB⟩ : ∃ x, (ys.map fun _ => false) = x := ⟨_, rfl⟩
  rw [hSV, hYL, hBL] at cm
  rw [hBL, hBB] at tb
  rw [hBB] at nb
  rw [hSV, hYL]
  have ga : gAll [.lst BL] m = .ok (.bl false) m := by simp [gAll, seqL, tb, nb]
  have dc : dComp (orA (dItL (dVar 1)) (orA (dItT (dVar 1)) (dItStr (dVar 1)))) (dName 2) dYes (C_Survey_is_fit_1 c) [2] [some SV, some (.lst YL), none, none, none, none, none, none] m = .ok (.lst BL) m := by
    rw [dComp_ap]
    simp [orA, wipeE, cm]
  rw [dSeq_rS (d := .bl false) (m1 := m) (by simp [-dComp_ap, dc, -gAll_ap, ga])]
  exact zap_bl false hm (by simp)
theorem fit_no4 (c : Cs) (hm : Cl m) {rs : List Shr} (fs : List Fct) {α : Type} (A B : α → D) (b1 : α → Bool) {ys : List α} (hl : ys.length = rs.length) (h0 : ys ≠ []) (hy : ys.length ≤ 1000) (hF : ∀ t ∈ ys, ∀ x0 x1 x2 x4 x5 x6 x7 M, Cl M → C_Survey_is_fit_2 c [x0, x1, x2, some (A t), x4, x5, x6, x7] M = .ok (.bl (b1 t)) M ∧ C_Survey_is_fit_2 c [x0, x1, x2, some (B t), x4, x5, x6, x7] M = .ok (.bl false) M) : F_Survey_is_fit c [svy c P rs fs, .lst (ys.map fun t => .tup [A t, B t])] m = .ok (.bl false) m := by
  have hz : sizeLine = 16777216 := rfl
  unfold F_Survey_is_fit
  have e0 : (env0 8 [svy c P rs fs, .lst (ys.map fun t => .tup [A t, B t])] : En) = [some (svy c P rs fs), some (.lst (ys.map fun t => .tup [A t, B t])), none, none, none, none, none, none] := by simp [env0]
  rw [dZap_eq, dFn_ap, e0, fit_lenS c fs (by rw [List.length_map]; exact hl)]
  have cm : dCompL (dName 2) dYes (C_Survey_is_fit_1 c) [some (svy c P rs fs), some (.lst (ys.map fun t => .tup [A t, B t])), none, none, none, none, none, none] (ys.map fun t => .tup [A t, B t]) m [] = .ok (ys.map fun _ => .bl true) m := by
    rw [compL_of (F := fun t => D.tup [A t, B t]) (f := fun _ => D.bl true) (p := fun _ => true) ys [] (fun y hy => ⟨[some (svy c P rs fs), some (.lst (ys.map fun t => .tup [A t, B t])), some (.tup [A y, B y]), none, none, none, none, none], by simp, by simp, fun _ => by simp [C_Survey_is_fit_1_ap, ans_tuple__Ratio, tagOf, Ans.get, primNames]⟩) (by simp [hz]; omega), filt_true, List.nil_append]
  have tb := toBs_ints (fun _ : α => true) ys
  have nb : (ys.map fun _ => true).all id = true := by simp
  have ab := all_betweenG c hm A B b1 (fun _ => false) (some (svy c P rs fs)) (some (.lst (ys.map fun t => .tup [A t, B t]))) none none none none ys [] (fun t ht x2 M hM => hF t ht _ _ x2 _ _ _ _ M hM) (fun _ => rfl) (by simp; omega)
  have t2 := toBs_two b1 (fun _ => false) ys
  have n2 : (ys.flatMap fun t => [b1 t, false]).all id = false := by
    obtain ⟨y, r, rfl⟩ := List.exists_cons_of_ne_nil h0
    rw [List.flatMap_cons]
    simp
  obtain ⟨SV, hSV⟩ : ∃ x, svy c P rs fs = x := ⟨_, rfl⟩
  obtain ⟨YL, hYL⟩ : ∃ x, (ys.map fun t => D.tup [A t, B t]) = x := ⟨_, rfl⟩
  obtain ⟨BL, hBL⟩ : ∃ x, (ys.map fun _ => D.bl true) = x := ⟨_, rfl⟩
  obtain ⟨BB, hBB⟩ : ∃ x, (ys.map fun _ => true) = x := ⟨_, rfl⟩
  obtain ⟨NL, hNL⟩ : ∃ x, (ys.flatMap fun t => [D.bl (b1 t), .bl false]) = x := ⟨_, rfl⟩
  obtain ⟨NB, hNB⟩ : ∃ x, (ys.flatMap fun t => [b1 t, false]) = x := ⟨_, rfl⟩
  rw [hSV, hYL, hBL] at cm
  rw [hBL, hBB] at tb
  rw [hBB] at nb
  rw [hSV, hYL, List.nil_append, hNL] at ab
  rw [hNL, hNB] at t2
  rw [hNB] at n2
  rw [hSV, hYL]
  have ga : gAll [.lst BL] m = .ok (.bl true) m := by simp [gAll, seqL, tb, nb]
  have a0 := at_end m (.lst NL)
  have tk : (m ++ [Mo.lst NL]).take m.length = m := by simp
  have zp := zap_bl (m := m) (M1 := m ++ [Mo.lst NL]) false hm tk
  obtain ⟨L, hL⟩ : ∃ x, m.length = x := ⟨_, rfl⟩
  obtain ⟨M1, hM1⟩ : ∃ x, m ++ [Mo.lst NL] = x := ⟨_, rfl⟩
  rw [hL, hM1] at ab a0 zp
  have gb : gAll [.loc L] M1 = .ok (.bl false) M1 := by simp [gAll, seqL, a0, t2, n2]
  have dc : dComp (orA (dItL (dVar 1)) (orA (dItT (dVar 1)) (dItStr (dVar 1)))) (dName 2) dYes (C_Survey_is_fit_1 c) [2] [some SV, some (.lst YL), none, none, none, none, none, none] m = .ok (.lst BL) m := by
    rw [dComp_ap]
    simp [orA, wipeE, cm]
  have d2 : dComp2 (orA (dItL (dVar 1)) (orA (dItT (dVar 1)) (dItStr (dVar 1)))) (dName 2) dYes (J_Survey_is_fit_1 c) (dName 3) dYes (C_Survey_is_fit_2 c) [2, 3] [3] [some SV, some (.lst YL), none, none, none, none, none, none] m = .ok (.loc L) M1 := by
    rw [dComp2_ap]
    have it : orA (dItL (dVar 1)) (orA (dItT (dVar 1)) (dItStr (dVar 1))) [some SV, some (.lst YL), none, none, none, none, none, none] m = .ok YL m := by simp [orA]
    have wp : wipeE [some SV, some (.lst YL), none, none, none, none, none, none] [2, 3] = [some SV, some (.lst YL), none, none, none, none, none, none] := by simp [wipeE]
    rw [it]
    simp only [Res.bind_ok]
    rw [wp, hL, ab]
    rfl
  rw [dSeq_nx (e1 := [some SV, some (.lst YL), none, none, none, none, none, none]) (m1 := m) (by simp [-dComp_ap, dc, -gAll_ap, ga])]
  rw [dSeq_rS (d := .bl false) (m1 := M1) (by simp [-dComp2_ap, d2, -gAll_ap, gb])]
  rw [hL]
  exact zp
end
end W
set_option maxHeartbeats 8000000
namespace W
open PySem PySem.Spec L2 DL
theorem rat_selfN (c : Cs) (r : Rat) (m : Mu) (n : Nat) (ts : List Tg) (h : .own c.cRatio ∈ ts) : solid (rat c r) = true ∧ eqX [(c.kRatio, padF 2 [] (F_RatioD_eqD c), ts)] m (n + 1) (rat c r) (rat c r) = some true := by
  refine ⟨rfl, ?_⟩
  have e := eq_ok c r r m
  unfold rat at e ⊢
  rw [eqX_obj]
  simp [eqRow, tagOf, h, e]
theorem pairs_ne (c : Cs) (P : Int) (ts : List (Int × Int)) (m : Mu) (gs : List Tg) (h : .own c.cRatio ∈ gs) : gNeX [(c.kRatio, padF 2 [] (F_RatioD_eqD c), gs)] 5 (.lst (ts.map (pairD c P))) (.lst (ts.map (pairD c P))) m = .ok (.bl false) m := by
  have e := eqX_ref_lst (rows := [(c.kRatio, padF 2 [] (F_RatioD_eqD c), gs)]) (m := m) (n := 4) (xs := ts.map (pairD c P)) (fun x hx => by
    obtain ⟨t, _, rfl⟩ := List.mem_map.mp hx
    exact ⟨rfl, eqX_ref_tup (n := 3) fun y hy => by
      simp only [List.mem_cons, List.not_mem_nil, or_false] at hy
      rcases hy with rfl | rfl <;> exact rat_selfN c _ m 2 gs h⟩)
  exact gNeX_of rfl e
theorem set_cat (ts : List (Int × Int)) {a : Nat} (ha : a < ts.length) (t : Int × Int) : (ts.map timeD).take a ++ [timeD t] ++ (ts.map timeD).drop (a + 1) = (ts.set a t).map timeD := by
  rw [List.set_eq_take_append_cons_drop, if_pos ha, List.map_append, List.map_take, List.map_cons, List.map_drop]
  simp
def Inv48 (d4 d5 d6 d7 : D) (P : Int) (e : En) : Prop := ∃ x0 x2 x8 x9 x10 x11 x12 x13 x14 x15 x16 x17 x18 x19, e = [x0, some (.loc 0), x2, some (.int P), some d4, some d5, some d6, some d7, x8, x9, x10, x11, x12, x13, x14, x15, x16, x17, x18, x19]
theorem handed_ok (c : Cs) {P : Int} (hP : 1 ≤ P) (hP2 : P ≤ 1000) (ts : List (Int × Int)) (hl : ts.length ≤ 1000) {m : Mu} (hm : Cl m) (C : Cs → DE) (hC : ∀ e, C c e m = (dTup (dCons (dMake c.cRatio (padF 3 [] (F_RatioD_initD c)) (dCons (dVar 14) (dCons (dVar 3) dNil))) (dCons (dMake c.cRatio (padF 3 [] (F_RatioD_initD c)) (dCons (dVar 15) (dCons (dVar 3) dNil))) dNil))) e m) (x0 x1 x2 x4 x5 x6 x7 x8 x9 x10 x11 x12 x13 x16 x17 x18 x19 : Option D) :
    dCompL (dTupG 2 (dGcons (dName 14) (dGcons (dName 15) dGnil))) dYes (C c) [x0, x1, x2, some (.int P), x4, x5, x6, x7, x8, x9, x10, x11, x12, x13, none, none, x16, x17, x18, x19] (ts.map timeD) m [] = .ok (ts.map (pairD c P)) m := by
  have hz : sizeLine = 16777216 := rfl
  rw [compL_of (F := timeD) (f := pairD c P) (p := fun _ => true) ts [] (fun t _ => ⟨[x0, x1, x2, some (.int P), x4, x5, x6, x7, x8, x9, x10, x11, x12, x13, some (.int t.1), some (.int t.2), x16, x17, x18, x19], by simp [timeD], by simp, fun _ => by
    have r1 := rmk c (a := t.1) (b := P) (k := 20) (by omega) (b20 (by omega) (by omega)) (by decide) hm
    have r2 := rmk c (a := t.2) (b := P) (k := 20) (by omega) (b20 (by omega) (by omega)) (by decide) hm
    rw [hC]
    unfold pairD
    obtain ⟨A, hA⟩ : ∃ x, rat c (Rat.divInt t.1 P) = x := ⟨_, rfl⟩
    obtain ⟨B, hB⟩ : ∃ x, rat c (Rat.divInt t.2 P) = x := ⟨_, rfl⟩
    rw [hA] at r1 ⊢
    rw [hB] at r2 ⊢
    simp [r1, r2, hz]⟩) (by simp [hz]; omega), filt_true, List.nil_append]
theorem look_ok (c : Cs) {P : Int} (hP : 1 ≤ P) (hP2 : P ≤ 40) {rs : List Shr} (h0 : rs ≠ []) (hl : rs.length ≤ 12) (hn : (rs.map (·.1)).Nodup) {ts : List (Int × Int)} (ht : TsOk rs.length ts) {fs : List Fct} (hf : ∀ f ∈ fs, Drawn rs.length ts f) (hfl : fs.length ≤ 64) (d0 : D) (e : En) (m : Mu) (he : Inv48 (.lst ((rs.map (·.1)).map .str)) (.lst (fs.map (factL (rs.map (·.1))))) (.lst (ts.map timeD)) (svy c P rs fs) P e ∧ BagOk m ∧ Cl m) :
    ∃ e1 e2 m2, dName 8 d0 e = some e1 ∧ B_law_1 c e1 m = .nx e2 m2 ∧ Inv48 (.lst ((rs.map (·.1)).map .str)) (.lst (fs.map (factL (rs.map (·.1))))) (.lst (ts.map timeD)) (svy c P rs fs) P e2 ∧ BagOk m2 ∧ Cl m2 := by
  have hz : sizeLine = 16777216 := rfl
  obtain ⟨⟨x0, x2, x8, x9, x10, x11, x12, x13, x14, x15, x16, x17, x18, x19, rfl⟩, hb, hm⟩ := he
  obtain ⟨xs, hxs⟩ : ∃ xs, rs.map (·.1) = xs := ⟨_, rfl⟩
  rw [hxs] at hn
  have xl : xs.length = rs.length := by rw [← hxs, List.length_map]
  have n1 : 0 < rs.length := List.length_pos_iff.mpr h0
  have tl := ht.len
  obtain ⟨a', m1, e1, a0, a1, g1⟩ := take_ok c hb (n := (rs.length : Int)) (by omega) (by omega)
  obtain ⟨a, rfl⟩ := Int.eq_ofNat_of_zero_le a0
  have ha : a < rs.length := by omega
  have b1 := g1.bag hb
  obtain ⟨dy, m2, e2, hy, g2⟩ := one_ok c b1 (ds := [.int 0, .int 1, .int (-1), .int 2, .int (-2), .int 3]) (by simp) (by simp)
  obtain ⟨y, rfl, y0, y1⟩ : ∃ y : Int, dy = .int y ∧ -2 ≤ y ∧ y ≤ 3 := by
    simp only [List.mem_cons, List.not_mem_nil, or_false] at hy
    rcases hy with rfl | rfl | rfl | rfl | rfl | rfl <;> exact ⟨_, rfl, by decide, by decide⟩
  have b2 := g2.bag b1
  obtain ⟨v, m3, e3, v0, v1, g3⟩ := take_ok c b2 (n := 2) (by decide) (by decide)
  have b3 := g3.bag b2
  have c3 : Cl m3 := g3.cl (g2.cl (g1.cl hm))
  obtain ⟨tn, htn⟩ : ∃ tn : Int × Int, (if v = 0 then ((ts.getD a (0, 0)).1 + y, (ts.getD a (0, 0)).2) else ((ts.getD a (0, 0)).1, (ts.getD a (0, 0)).2 + y)) = tn := ⟨_, rfl⟩
  have ga : ts.getD a (0, 0) ∈ ts := by
    rw [List.getD_eq_getElem?_getD, List.getElem?_eq_getElem (by omega)]
    exact List.getElem_mem _
  have bg := ht.b _ ga
  have tnb : Bi 20 tn.1 ∧ Bi 20 tn.2 := by
    rw [← htn]
    split <;> exact ⟨b20 (by dsimp only; omega) (by dsimp only; omega), b20 (by dsimp only; omega) (by dsimp only; omega)⟩
  obtain ⟨ss, hss⟩ : ∃ ss, ts.set a tn = ss := ⟨_, rfl⟩
  have sl : ss.length = rs.length := by rw [← hss, List.length_set, tl]
  have sb : ∀ t ∈ ss, Bi 20 t.1 ∧ Bi 20 t.2 := fun t hm => by
    rw [← hss] at hm
    rcases List.mem_or_eq_of_mem_set hm with h | h
    · have := ht.b t h
      exact ⟨b20 (by omega) (by omega), b20 (by omega) (by omega)⟩
    · rw [h]; exact tnb
  have BP : Bi 20 P := b20 (by omega) (by omega)
  have Of : ∀ f ∈ fs, FOk 20 rs.length f := fun f h => (hf f h).ok
  have Of2 : ∀ f ∈ fs, FOk 20 xs.length f := fun f h => by rw [xl]; exact Of f h
  have fit1 := is_fit_ok c (P := P) (s := 20) (by omega) (by decide) BP c3 hl (by rw [hxs]; exact hn) Of (by omega) sb sl (.inl rfl)
  have fit2 := is_fit_ok c (P := P) (s := 20) (by omega) (by decide) BP c3 hl (by rw [hxs]; exact hn) Of (by omega) sb sl (.inr rfl)
  have fit3 := fit_no2 c c3 (P := P) (rs := rs) (by omega) fs (zs := ss.map (pairD c P) ++ (ss.map (pairD c P)).take 1) (by simp; omega) (by simp; omega)
  have wf := w_is_fit_ok c hn (by omega) Of2 (ts := ss) (by omega) m3
  have hd := handed_ok c hP (by omega) ss (by omega) c3 C_law_1 (fun e => C_law_1_ap c e m3)
  have pn := pairs_ne c P ss m3 [(.own c.cRatio), (.prim "list"), (.prim "tuple")] (by simp)
  have iT := ixT (ts := ts) (a := a) (by omega) m3
  have iT2 := ixT (ts := ts) (a := a) (by omega) m2
  have lk := like_refl c m3 8 (.lst [.bl (fitB ss fs), .bl (fitB ss fs), .bl false]) ⟨by simp [hz], fun x hx => by
    simp only [List.mem_cons, List.not_mem_nil, or_false] at hx
    rcases hx with rfl | rfl | rfl <;> trivial⟩
  have sc := set_cat ts (a := a) (by omega) tn
  rw [hss] at sc
  have cd := cutD_drop (ts.map timeD) (a := a + 1) (by rw [List.length_map]; omega)
  have ct := cutD_take (ts.map timeD) a
  have tml : (ts.map timeD).length = rs.length := by rw [List.length_map, tl]
  rw [hxs]
  suffices h : ∃ e2, B_law_1 c [x0, some (.loc 0), x2, some (.int P), some (.lst (xs.map .str)), some (.lst (fs.map (factL xs))), some (.lst (ts.map timeD)), some (svy c P rs fs), some d0, x9, x10, x11, x12, x13, x14, x15, x16, x17, x18, x19] m = .nx e2 m3 ∧ Inv48 (.lst (xs.map .str)) (.lst (fs.map (factL xs))) (.lst (ts.map timeD)) (svy c P rs fs) P e2 by
    obtain ⟨e2, h1, h2⟩ := h
    exact ⟨_, e2, m3, by simp, h1, h2, b3, c3⟩
  have pt : .tup [.int tn.1, .int tn.2] = timeD tn := rfl
  have it0 : gIx (timeD (ts.getD a (0, 0))) (.int 0) m3 = .ok (.int (ts.getD a (0, 0)).1) m3 := rfl
  have it1 : gIx (timeD (ts.getD a (0, 0))) (.int 1) m3 = .ok (.int (ts.getD a (0, 0)).2) m3 := rfl
  obtain ⟨SD, FD, T, sd, o1, o2, o3⟩ := svy_obj c P rs fs
  have iv : insOf m3 (svy c P rs fs) = some (c.cSurvey, nsSurvey, [SD, FD, T]) := by rw [o1]; rfl
  have gT : gTuple [.lst (ss.map (pairD c P))] m3 = .ok (.tup (ss.map (pairD c P))) m3 := by simp [gTuple, seqA, seqL]
  have gL : gList [.lst (ss.map (pairD c P))] m3 = .ok (.lst (ss.map (pairD c P))) m3 := by simp [gList, seqA, seqL]
  have t1z : (ss.map (pairD c P)).length ≤ 100 := by rw [List.length_map]; omega
  obtain ⟨T1, hT1⟩ : ∃ x, (ts.getD a (0, 0)).1 = x := ⟨_, rfl⟩
  obtain ⟨T2, hT2⟩ : ∃ x, (ts.getD a (0, 0)).2 = x := ⟨_, rfl⟩
  obtain ⟨TA, hTA⟩ : ∃ x, timeD (ts.getD a (0, 0)) = x := ⟨_, rfl⟩
  obtain ⟨SV, hSV⟩ : ∃ x, svy c P rs fs = x := ⟨_, rfl⟩
  obtain ⟨XD, hXD⟩ : ∃ x, xs.map D.str = x := ⟨_, rfl⟩
  obtain ⟨FL, hFL⟩ : ∃ x, fs.map (factL xs) = x := ⟨_, rfl⟩
  obtain ⟨TL, hTL⟩ : ∃ x, ts.map timeD = x := ⟨_, rfl⟩
  obtain ⟨SL, hSL⟩ : ∃ x, ss.map timeD = x := ⟨_, rfl⟩
  obtain ⟨PL, hPL⟩ : ∃ x, ss.map (pairD c P) = x := ⟨_, rfl⟩
  obtain ⟨FB, hFB⟩ : ∃ x, fitB ss fs = x := ⟨_, rfl⟩
  obtain ⟨N, hN⟩ : ∃ x : Int, ((rs.length : Nat) : Int) = x := ⟨_, rfl⟩
  obtain ⟨A, hA⟩ : ∃ x : Int, ((a : Nat) : Int) = x := ⟨_, rfl⟩
  obtain ⟨TN, hTN⟩ : ∃ x, timeD tn = x := ⟨_, rfl⟩
  have A1 : ((a + 1 : Nat) : Int) = A + 1 := by omega
  rw [hT1, hT2] at htn
  rw [hTA] at iT iT2 it0 it1
  rw [hT1] at it0
  rw [hT2] at it1
  rw [hTL, hA] at iT iT2
  rw [hSV, hPL, hFB] at fit1 fit2
  rw [hSV, hPL] at fit3
  rw [hXD, hFL, hSL, hFB] at wf
  simp only [hSL, hPL] at hd
  rw [hPL] at pn gT gL t1z
  rw [hFB] at lk
  rw [hTL, hTN, hSL] at sc
  rw [hTL, A1] at cd
  rw [hTL, hA] at ct
  rw [hTL] at tml
  rw [hN] at e1
  rw [hA] at e1
  rw [hSV] at iv
  rw [hTN] at pt
  rw [hXD, hFL, hTL, hSV]
  have gLN : ∀ M, gLen [.lst TL] M = .ok (.int N) M := fun M => by rw [← hN, ← tml]; simp
  have pl1 : (PL.length : Int) ≤ 100 := by omega
  have ct1 : cutD PL none (some 1) = PL.take 1 := cutD_take PL 1
  have tz : TL.length ≤ 100 := by omega
  have cat1 : gCat (.lst (TL.take a)) (.lst [TN]) m3 = .ok (.lst (TL.take a ++ [TN])) m3 := by simp [gCat, hz]; omega
  have cat2 : gCat (.lst (TL.take a ++ [TN])) (.lst (TL.drop (a + 1))) m3 = .ok (.lst SL) m3 := by rw [← sc]; simp [gCat, hz]; omega
  have cat3 : gCat (.lst PL) (.lst (PL.take 1)) m3 = .ok (.lst (PL ++ PL.take 1)) m3 := by simp [gCat, hz]; omega
  rw [B_law_1_ap]
  refine NXe (by (conv => lhs; simp [-gLen_ap, gLN, e1, e2, hz]) <;> rfl) ?_
  have st2 : dSet 11 (dIf (dTst (dBin gEq (dFun (padF 2 [] (F_w_take c)) (dCons (dVar 1) (dCons (dC (.int 2)) dNil))) (dC (.int 0)))) (dTup (dCons (dBin gAdd (dBin gIx (dBin gIx (dVar 6) (dVar 9)) (dC (.int 0))) (dVar 10)) (dCons (dBin gIx (dBin gIx (dVar 6) (dVar 9)) (dC (.int 1))) dNil))) (dTup (dCons (dBin gIx (dBin gIx (dVar 6) (dVar 9)) (dC (.int 0))) (dCons (dBin gAdd (dBin gIx (dBin gIx (dVar 6) (dVar 9)) (dC (.int 1))) (dVar 10)) dNil)))) [x0, some (.loc 0), x2, some (.int P), some (.lst XD), some (.lst FL), some (.lst TL), some SV, some d0, some (.int A), some (.int y), x11, x12, x13, x14, x15, x16, x17, x18, x19] m2 = .nx [x0, some (.loc 0), x2, some (.int P), some (.lst XD), some (.lst FL), some (.lst TL), some SV, some d0, some (.int A), some (.int y), some TN, x12, x13, x14, x15, x16, x17, x18, x19] m3 := by
    rw [← pt, ← htn]
    by_cases hv : v = 0
    · rw [if_pos hv]
      simp [e3, hv, gEq, scEq, iT, it0, it1, hz]
    · rw [if_neg hv]
      simp [e3, hv, gEq, scEq, iT, it0, it1, hz]
  refine NXe st2 ?_
  refine NXe (by (conv => lhs; simp [ct, cd, -gCat_ap, cat1, cat2, hz]) <;> rfl) ?_
  refine NXe (by (conv => lhs; simp [wipeE, hd]) <;> rfl) ?_
  refine NXe (by (conv => lhs; simp [wf]) <;> rfl) ?_
  refine NXe (by (conv => lhs; simp [-gList_ap, gL]) <;> rfl) ?_
  have pk : ∀ a b : D, DL.pick [0, 1] [a, b] = some [a, b] := fun _ _ => rfl
  refine ⟨_, by (conv => lhs; simp [dMeth, methAt, iv, fit1, fit2, fit3, GK_Survey_is_fit_0_times, pk, gT, ct1, -gCat_ap, cat3, lk, pn, hz]) <;> rfl, _, _, _, _, _, _, _, _, _, _, _, _, _, _, rfl⟩
end W
set_option maxHeartbeats 1500000
namespace W
open PySem PySem.Spec L2 DL
def Inv48b (e : En) : Prop := ∃ x0 x2 x3 x4 x5 x6 x7 x8 x9 x10 x11 x12 x13 x14 x15 x16 x17 x18 x19, e = [x0, some (.loc 0), x2, x3, x4, x5, x6, x7, x8, x9, x10, x11, x12, x13, x14, x15, x16, x17, x18, x19]
section
variable {P : Int}
theorem btw_non (c : Cs) (x0 x1 x2 x4 x5 x6 x7 : Option D) (M : Mu) : C_Survey_is_fit_2 c [x0, x1, x2, some .non, x4, x5, x6, x7] M = .ok (.bl false) M := by
  have b : F_is_between c [.non, .int 0, .non] M = .ok (.bl false) M := by simp [F_is_between, env0, ans_Ratio__Ratio, tagOf, Ans.get, primNames]
  rw [C_Survey_is_fit_2_ap]
  exact call_gen (ds := [.non, .int 0, .non]) (by simp) rfl b
theorem btw_int (c : Cs) (v : Int) (x0 x1 x2 x4 x5 x6 x7 : Option D) (M : Mu) : C_Survey_is_fit_2 c [x0, x1, x2, some (.int v), x4, x5, x6, x7] M = .ok (.bl false) M := by
  have b : F_is_between c [.int v, .int 0, .non] M = .ok (.bl false) M := by simp [F_is_between, env0, ans_Ratio__Ratio, tagOf, Ans.get, primNames]
  rw [C_Survey_is_fit_2_ap]
  exact call_gen (ds := [.int v, .int 0, .non]) (by simp) rfl b
theorem odd_ok (c : Cs) (hP : 1 ≤ P) (hP2 : P ≤ 40) {rs : List Shr} (h0 : rs ≠ []) (hl : rs.length ≤ 12) {ts : List (Int × Int)} (ht : TsOk rs.length ts) (fs : List Fct) {m : Mu} (hm : Cl m) {d : D}
    (hd : d ∈ [D.non, .int 3, .str "ab", .lst ((ts.map (pairD c P)).drop 1), .lst (ts.map fun t => .lst [rat c (Rat.divInt t.1 P), rat c (Rat.divInt t.2 P)]), .lst (ts.map fun t => .tup [rat c (Rat.divInt t.1 P), .non]), .lst (ts.map timeD), .lst (ts.map fun t => .tup [rat c (Rat.divInt t.1 P), rat c (Rat.divInt t.2 P), rat c (Rat.divInt t.1 P)]), .lst (ts.map fun t => rat c (Rat.divInt t.1 P))]) :
    F_Survey_is_fit c [svy c P rs fs, d] m = .ok (.bl false) m := by
  have n1 : 0 < rs.length := List.length_pos_iff.mpr h0
  have tl := ht.len
  have t0 : ts ≠ [] := fun z => by rw [z] at tl; simp at tl; omega
  simp only [List.mem_cons, List.not_mem_nil, or_false] at hd
  rcases hd with rfl | rfl | rfl | rfl | rfl | rfl | rfl | rfl | rfl
  · exact fit_no1 c hm rs fs (by simp [F_is_list, env0, ans_list_tuple, tagOf, Ans.get, primNames])
  · exact fit_no1 c hm rs fs (by simp [F_is_list, env0, ans_list_tuple, tagOf, Ans.get, primNames])
  · exact fit_no1 c hm rs fs (by simp [F_is_list, env0, ans_list_tuple, tagOf, Ans.get, primNames])
  · exact fit_no2 c hm (by omega) fs (by rw [List.length_drop, List.length_map]; omega) (by rw [List.length_drop, List.length_map]; omega)
  · refine fit_no3 c (P := P) hm fs (F := fun t : Int × Int => D.lst [rat c (Rat.divInt t.1 P), rat c (Rat.divInt t.2 P)]) tl t0 (by omega) ?_
    intro t _ x0 x1 x3 x4 x5 x6 x7
    simp [C_Survey_is_fit_1_ap, ans_tuple__Ratio, tagOf, Ans.get, primNames]
  · refine fit_no4 c (P := P) hm fs (fun t : Int × Int => rat c (Rat.divInt t.1 P)) (fun _ => .non) (fun t => decide (0 ≤ t.1)) tl t0 (by omega) ?_
    intro t htm x0 x1 x2 x4 x5 x6 x7 M hM
    have := ht.b t htm
    exact ⟨between0 c (s := 20) (by omega) (by decide) (b20 (by omega) (by omega)) (b20 (by omega) (by omega)) x0 x1 x2 x4 x5 x6 x7 hM, btw_non c _ _ _ _ _ _ _ M⟩
  · refine fit_no4 c (P := P) hm fs (fun t : Int × Int => .int t.1) (fun t => .int t.2) (fun _ => false) tl t0 (by omega) ?_
    intro t htm x0 x1 x2 x4 x5 x6 x7 M hM
    exact ⟨btw_int c _ _ _ _ _ _ _ _ M, btw_int c _ _ _ _ _ _ _ _ M⟩
  · refine fit_no3 c (P := P) hm fs (F := fun t : Int × Int => D.tup [rat c (Rat.divInt t.1 P), rat c (Rat.divInt t.2 P), rat c (Rat.divInt t.1 P)]) tl t0 (by omega) ?_
    intro t _ x0 x1 x3 x4 x5 x6 x7
    obtain ⟨A, hA⟩ : ∃ x, rat c (Rat.divInt t.1 P) = x := ⟨_, rfl⟩
    obtain ⟨B, hB⟩ : ∃ x, rat c (Rat.divInt t.2 P) = x := ⟨_, rfl⟩
    rw [hA, hB]
    simp [C_Survey_is_fit_1_ap, ans_tuple__Ratio, tagOf, Ans.get, primNames, gEq, scEq]
  · refine fit_no3 c (P := P) hm fs (F := fun t : Int × Int => rat c (Rat.divInt t.1 P)) tl t0 (by omega) ?_
    intro t _ x0 x1 x3 x4 x5 x6 x7
    have tg : tagOf m (rat c (Rat.divInt t.1 P)) = some (.own c.cRatio) := rfl
    obtain ⟨A, hA⟩ : ∃ x, rat c (Rat.divInt t.1 P) = x := ⟨_, rfl⟩
    rw [hA] at tg ⊢
    simp [C_Survey_is_fit_1_ap, ans_tuple__Ratio, tg, Ans.get, primNames]
theorem bodyB_law (c : Cs) (d0 : D) (e : En) (m : Mu) (he : Inv48b e ∧ BagOk m ∧ Cl m) : ∃ e1 e2 m2, dName 2 d0 e = some e1 ∧ B_law_2 c e1 m = .nx e2 m2 ∧ Inv48b e2 ∧ BagOk m2 ∧ Cl m2 := by
  have hz : sizeLine = 16777216 := rfl
  obtain ⟨⟨x0, x2, x3, x4, x5, x6, x7, x8, x9, x10, x11, x12, x13, x14, x15, x16, x17, x18, x19, rfl⟩, hb, hc0⟩ := he
  obtain ⟨P, m1, e1, P1, P2, g1⟩ := steps_ok c hb
  have b1 := g1.bag hb
  obtain ⟨u, m2, e2, u0, u1, g2⟩ := take_ok c b1 (n := 4) (by decide) (by decide)
  have b2 := g2.bag b1
  obtain ⟨xs, m3, e3, xl, xg, xn, g3⟩ := names_ok c b2 (n := 1 + u) (by omega) (by omega)
  have b3 := g3.bag b2
  have c3 : Cl m3 := g3.cl (g2.cl (g1.cl hc0))
  obtain ⟨fs, ts, m4, e4, ht, hf, hfl, g4⟩ := wfacts_ok c (xs := xs) (by omega) (P := P) (by omega) P2 b3 c3
  have b4 := g4.bag b3
  obtain ⟨rs, m5, e5, rn, rok, g5⟩ := wshares_ok c (xs := xs) (by omega) xg P1 (by omega) b4
  have b5 := g5.bag b4
  have c5 : Cl m5 := g5.cl (g4.cl c3)
  have rl : rs.length = xs.length := by rw [← rn, List.length_map]
  have n1 : 0 < rs.length := by omega
  have r0 : rs ≠ [] := fun z => by rw [z] at n1; simp at n1
  rw [← rl] at ht hf
  have e6 := wsurvey_ok c (P := P) P1 (by omega) r0 (by omega) (by rw [rn]; exact xn) rok ht hf (by omega) c5
  obtain ⟨el, m6, lp, ⟨y0, y2, y8, y9, y10, y11, y12, y13, y14, y15, y16, y17, y18, y19, rfl⟩, b6, c6⟩ := dLoop_inv (g := dName 8) (b := B_law_1 c) (fun e m => Inv48 (.lst ((rs.map (·.1)).map .str)) (.lst (fs.map (factL (rs.map (·.1))))) (.lst (ts.map timeD)) (svy c P rs fs) P e ∧ BagOk m ∧ Cl m) (rngD 0 5) [x0, some (.loc 0), some d0, some (.int P), some (.lst ((rs.map (·.1)).map .str)), some (.lst (fs.map (factL (rs.map (·.1))))), some (.lst (ts.map timeD)), some (svy c P rs fs), x8, x9, x10, x11, x12, x13, x14, x15, x16, x17, x18, x19] m5 (fun d _ e m h => look_ok c (by omega) P2 r0 (by omega) (by rw [rn]; exact xn) ht hf hfl d e m h) ⟨⟨_, _, _, _, _, _, _, _, _, _, _, _, _, _, rfl⟩, b5, c5⟩
  have hd := handed_ok c (P := P) (by omega) (by omega) ts (by rw [ht.len]; omega) c6 C_law_2 (fun e => C_law_2_ap c e m6)
  have BP : Bi 20 P := b20 (by omega) (by omega)
  have tb20 : ∀ t ∈ ts, Bi 20 t.1 ∧ Bi 20 t.2 := fun t h => by have := ht.b t h; exact ⟨b20 (by omega) (by omega), b20 (by omega) (by omega)⟩
  obtain ⟨dd, m7, e7, hdd, g7⟩ := one_ok c b6 (ds := [D.non, .int 3, .str "ab", .lst ((ts.map (pairD c P)).drop 1), .lst (ts.map fun t => .lst [rat c (Rat.divInt t.1 P), rat c (Rat.divInt t.2 P)]), .lst (ts.map fun t => .tup [rat c (Rat.divInt t.1 P), .non]), .lst (ts.map timeD), .lst (ts.map fun t => .tup [rat c (Rat.divInt t.1 P), rat c (Rat.divInt t.2 P), rat c (Rat.divInt t.1 P)]), .lst (ts.map fun t => rat c (Rat.divInt t.1 P))]) (by simp) (by simp)
  have b7 := g7.bag b6
  have c7 := g7.cl c6
  have fitg := is_fit_ok c (P := P) (s := 20) (by omega) (by decide) BP c7 (by omega) (by rw [rn]; exact xn) (fun f h => (hf f h).ok) (by omega) tb20 ht.len (.inl rfl)
  rw [fit_drawn ht hf] at fitg
  have fito := odd_ok c (P := P) (by omega) P2 r0 (by omega) ht fs c7 hdd
  have lk := like_refl c m7 8 (.lst [.bl true, .bl false]) ⟨by simp [hz], fun x hx => by
    simp only [List.mem_cons, List.not_mem_nil, or_false] at hx
    rcases hx with rfl | rfl <;> trivial⟩
  obtain ⟨SD, FD, T, sd, o1, o2, o3⟩ := svy_obj c P rs fs
  have iv : insOf m7 (svy c P rs fs) = some (c.cSurvey, nsSurvey, [SD, FD, T]) := by rw [o1]; rfl
  have cd := cutD_drop (ts.map (pairD c P)) (a := 1) (by rw [List.length_map, ht.len]; omega)
  have cmp : ∀ (b : DE) (G : Int × Int → D), (∀ t, t ∈ ts → ∀ z0 z1 z2 z3 z4 z5 z6 z7 z8 z9 z10 z12 z13 z14 z15 z16 z17 z18 z19, b [z0, z1, z2, z3, z4, z5, z6, z7, z8, z9, z10, some (pairD c P t), z12, z13, z14, z15, z16, z17, z18, z19] m6 = .ok (G t) m6) → ∀ z0 z1 z2 z3 z4 z5 z6 z7 z8 z9 z10 z12 z13 z14 z15 z16 z17 z18 z19, dCompL (dName 11) dYes b [z0, z1, z2, z3, z4, z5, z6, z7, z8, z9, z10, none, z12, z13, z14, z15, z16, z17, z18, z19] (ts.map (pairD c P)) m6 [] = .ok (ts.map G) m6 := fun b G h z0 z1 z2 z3 z4 z5 z6 z7 z8 z9 z10 z12 z13 z14 z15 z16 z17 z18 z19 => by
    rw [compL_of (F := pairD c P) (f := G) (p := fun _ => true) ts [] (fun t htm => ⟨[z0, z1, z2, z3, z4, z5, z6, z7, z8, z9, z10, some (pairD c P t), z12, z13, z14, z15, z16, z17, z18, z19], by simp, by simp, fun _ => h t htm _ _ _ _ _ _ _ _ _ _ _ _ _ _ _ _ _ _ _⟩) (by simp [hz]; have := ht.len; omega), filt_true, List.nil_append]
  have q1 := cmp (dFun gList (dCons (dVar 11) dNil)) (fun t => .lst [rat c (Rat.divInt t.1 P), rat c (Rat.divInt t.2 P)]) (fun t _ z0 z1 z2 z3 z4 z5 z6 z7 z8 z9 z10 z12 z13 z14 z15 z16 z17 z18 z19 => by
    unfold pairD
    obtain ⟨A, hA⟩ : ∃ x, rat c (Rat.divInt t.1 P) = x := ⟨_, rfl⟩
    obtain ⟨B, hB⟩ : ∃ x, rat c (Rat.divInt t.2 P) = x := ⟨_, rfl⟩
    rw [hA, hB]
    simp [gList, seqA, seqL, seqT])
  have q2 := cmp (C_law_4 c) (fun t => .tup [rat c (Rat.divInt t.1 P), .non]) (fun t _ z0 z1 z2 z3 z4 z5 z6 z7 z8 z9 z10 z12 z13 z14 z15 z16 z17 z18 z19 => by
    unfold pairD
    obtain ⟨A, hA⟩ : ∃ x, rat c (Rat.divInt t.1 P) = x := ⟨_, rfl⟩
    obtain ⟨B, hB⟩ : ∃ x, rat c (Rat.divInt t.2 P) = x := ⟨_, rfl⟩
    have i0 : gIx (.tup [A, B]) (.int 0) m6 = .ok A m6 := rfl
    rw [hA, hB]
    simp [C_law_4_ap, i0, hz])
  have q3 := cmp (C_law_3 c) (fun t => .tup [rat c (Rat.divInt t.1 P), rat c (Rat.divInt t.2 P), rat c (Rat.divInt t.1 P)]) (fun t _ z0 z1 z2 z3 z4 z5 z6 z7 z8 z9 z10 z12 z13 z14 z15 z16 z17 z18 z19 => by
    unfold pairD
    obtain ⟨A, hA⟩ : ∃ x, rat c (Rat.divInt t.1 P) = x := ⟨_, rfl⟩
    obtain ⟨B, hB⟩ : ∃ x, rat c (Rat.divInt t.2 P) = x := ⟨_, rfl⟩
    have i0 : gIx (.tup [A, B]) (.int 0) m6 = .ok A m6 := rfl
    have i1 : gIx (.tup [A, B]) (.int 1) m6 = .ok B m6 := rfl
    rw [hA, hB]
    simp [C_law_3_ap, i0, i1, hz])
  have q4 := cmp (dBin gIx (dVar 11) (dC (.int 0))) (fun t => rat c (Rat.divInt t.1 P)) (fun t _ z0 z1 z2 z3 z4 z5 z6 z7 z8 z9 z10 z12 z13 z14 z15 z16 z17 z18 z19 => by
    unfold pairD
    obtain ⟨A, hA⟩ : ∃ x, rat c (Rat.divInt t.1 P) = x := ⟨_, rfl⟩
    obtain ⟨B, hB⟩ : ∃ x, rat c (Rat.divInt t.2 P) = x := ⟨_, rfl⟩
    have i0 : gIx (.tup [A, B]) (.int 0) m6 = .ok A m6 := rfl
    rw [hA, hB]
    simp [i0])
  suffices h : ∃ e2, B_law_2 c [x0, some (.loc 0), some d0, x3, x4, x5, x6, x7, x8, x9, x10, x11, x12, x13, x14, x15, x16, x17, x18, x19] m = .nx e2 m7 ∧ Inv48b e2 by
    obtain ⟨e2, h1, h2⟩ := h
    exact ⟨_, e2, m7, by simp, h1, h2, b7, c7⟩
  rw [rn] at e6 lp
  obtain ⟨SV, hSV⟩ : ∃ x, svy c P rs fs = x := ⟨_, rfl⟩
  obtain ⟨XD, hXD⟩ : ∃ x, xs.map D.str = x := ⟨_, rfl⟩
  obtain ⟨FL, hFL⟩ : ∃ x, fs.map (factL xs) = x := ⟨_, rfl⟩
  obtain ⟨TL, hTL⟩ : ∃ x, ts.map timeD = x := ⟨_, rfl⟩
  obtain ⟨RL, hRL⟩ : ∃ x, rs.map shL = x := ⟨_, rfl⟩
  obtain ⟨PL, hPL⟩ : ∃ x, ts.map (pairD c P) = x := ⟨_, rfl⟩
  obtain ⟨L1, hL1⟩ : ∃ x, (ts.map fun t => D.lst [rat c (Rat.divInt t.1 P), rat c (Rat.divInt t.2 P)]) = x := ⟨_, rfl⟩
  obtain ⟨L2, hL2⟩ : ∃ x, (ts.map fun t => D.tup [rat c (Rat.divInt t.1 P), .non]) = x := ⟨_, rfl⟩
  obtain ⟨L3, hL3⟩ : ∃ x, (ts.map fun t => D.tup [rat c (Rat.divInt t.1 P), rat c (Rat.divInt t.2 P), rat c (Rat.divInt t.1 P)]) = x := ⟨_, rfl⟩
  obtain ⟨L4, hL4⟩ : ∃ x, (ts.map fun t => rat c (Rat.divInt t.1 P)) = x := ⟨_, rfl⟩
  rw [hXD] at e3 e4 e5
  rw [hFL, hTL] at e4
  rw [hRL] at e5 e6
  rw [hFL, hSV] at e6
  rw [hXD, hFL, hTL, hSV] at lp
  simp only [hTL, hPL] at hd
  rw [hPL, hL1, hL2, hTL, hL3, hL4] at e7
  rw [hPL, hSV] at fitg
  rw [hSV] at fito iv
  rw [hPL] at cd
  have cd : cutD PL (some 1) none = PL.drop 1 := cd
  obtain ⟨PT, hPT⟩ : ∃ x, PL.drop 1 = x := ⟨_, rfl⟩
  rw [hPT] at cd e7
  simp only [hPL, hL1] at q1
  simp only [hPL, hL2] at q2
  simp only [hPL, hL3] at q3
  simp only [hPL, hL4] at q4
  rw [B_law_2_ap]
  refine NXe (by (conv => lhs; simp [e1]) <;> rfl) ?_
  refine NXe (by (conv => lhs; simp [e2, e3]) <;> rfl) ?_
  refine NXe (by (conv => lhs; simp [e4]) <;> rfl) ?_
  refine NXe (by (conv => lhs; simp [e5, e6]) <;> rfl) ?_
  refine NXe (dFor_isT (dItR1_of (j := 5) (by simp) (by omega) (by omega)) lp) ?_
  refine NXe (by (conv => lhs; simp [wipeE, hd]) <;> rfl) ?_
  refine NXe (by (conv => lhs; simp [cd, wipeE, q1, q2, q3, q4, e7, hz]) <;> rfl) ?_
  refine ⟨_, by (conv => lhs; simp [dMeth, methAt, iv, fitg, fito, lk, hz]) <;> rfl, _, _, _, _, _, _, _, _, _, _, _, _, _, _, _, _, _, _, _, rfl⟩
end
theorem law_true (c : Cs) (hc : c.Ok) (ns : List Int) (hl : ns.length ≤ 63) : ∃ m, F_law c [.lst (ns.map .int)] [] = .ok (.bl true) m := by
  obtain ⟨m0, e0, b0, c0⟩ := begin_ok c ns hl
  obtain ⟨e1, m1, h1, h2, b1, c1⟩ := dLoop_inv (g := dName 2) (b := B_law_2 c) (fun e m => Inv48b e ∧ BagOk m ∧ Cl m) (rngD 0 3) [some (.lst (ns.map .int)), some (.loc 0), none, none, none, none, none, none, none, none, none, none, none, none, none, none, none, none, none, none] m0 (fun d _ e m h => bodyB_law c d e m h) ⟨⟨_, _, _, _, _, _, _, _, _, _, _, _, _, _, _, _, _, _, _, rfl⟩, b0, c0⟩
  refine ⟨m1, ?_⟩
  simp [F_law, env0, e0, h1]
end W

set_option maxHeartbeats 0
namespace W
open PySem PySem.Spec L2 DL
theorem facts {P : Program} {w : World} {K : PySem.W.Frag} {h : Heap} {mg : Str → Option Value} {fa : Addr} (X : K.In h) (G : h.Ns mainGlobals mg) (hfa : mg ("law" : Str) = some (.ref fa)) (c : SaysK fs ds K) :
    ∃ (fd : FuncData) (cc : Cs), cc.Ok ∧ (∀ (s : Shared) (v : Value), BindsTo s fd ⟨[v], []⟩ [("_law_script", v)]) ∧ ∀ base : Heap, K.In base → base.Ns mainGlobals mg → FnD P w K mg base 11 fa fd ["_law_script"] (F_law cc) := by
  obtain ⟨fd0, F0⟩ := c.df 0 (d := dk0) rfl
  obtain ⟨fd1, F1⟩ := c.df 1 (d := dk1) rfl
  obtain ⟨fd2, F2⟩ := c.df 2 (d := dk2) rfl
  obtain ⟨fd3, F3⟩ := c.df 3 (d := dk3) rfl
  obtain ⟨fd4, F4⟩ := c.df 4 (d := dk4) rfl
  obtain ⟨fd5, F5⟩ := c.df 5 (d := dk5) rfl
  obtain ⟨fd6, F6⟩ := c.df 6 (d := dk6) rfl
  obtain ⟨fd7, F7⟩ := c.df 7 (d := dk7) rfl
  obtain ⟨fd8, F8⟩ := c.df 8 (d := dk8) rfl
  obtain ⟨fd9, F9⟩ := c.df 9 (d := dk9) rfl
  obtain ⟨fd10, F10⟩ := c.df 10 (d := dk10) rfl
  obtain ⟨fd11, F11⟩ := c.df 11 (d := dk11) rfl
  obtain ⟨fd12, F12⟩ := c.df 12 (d := dk12) rfl
  obtain ⟨fd13, F13⟩ := c.df 13 (d := dk13) rfl
  obtain ⟨fd14, F14⟩ := c.df 14 (d := dk14) rfl
  obtain ⟨fd15, F15⟩ := c.df 15 (d := dk15) rfl
  obtain ⟨fd16, F16⟩ := c.df 16 (d := dk16) rfl
  obtain ⟨fd17, F17⟩ := c.df 17 (d := dk17) rfl
  obtain ⟨fd18, F18⟩ := c.df 18 (d := dk18) rfl
  obtain ⟨fd19, F19⟩ := c.df 19 (d := dk19) rfl
  obtain ⟨fd20, F20⟩ := c.df 20 (d := dk20) rfl
  obtain ⟨fd21, F21⟩ := c.df 21 (d := dk21) rfl
  obtain ⟨fd22, F22⟩ := c.df 22 (d := dk22) rfl
  obtain ⟨fd23, F23⟩ := c.df 23 (d := dk23) rfl
  obtain ⟨fd24, F24⟩ := c.df 24 (d := dk24) rfl
  obtain ⟨fd25, F25⟩ := c.df 25 (d := dk25) rfl
  obtain ⟨fd26, F26⟩ := c.df 26 (d := dk26) rfl
  obtain ⟨fd27, F27⟩ := c.df 27 (d := dk27) rfl
  obtain ⟨fd28, F28⟩ := c.df 28 (d := dk28) rfl
  obtain ⟨fd29, F29⟩ := c.df 29 (d := dk29) rfl
  obtain ⟨fd30, F30⟩ := c.df 30 (d := dk30) rfl
  obtain ⟨fd31, F31⟩ := c.df 31 (d := dk31) rfl
  obtain ⟨fd32, F32⟩ := c.df 32 (d := dk32) rfl
  obtain ⟨fd33, F33⟩ := c.df 33 (d := dk33) rfl
  obtain ⟨fd34, F34⟩ := c.df 34 (d := dk34) rfl
  obtain ⟨fd35, F35⟩ := c.df 35 (d := dk35) rfl
  have T : Txt K mg ⟨(He.ga K "Ratio"), (He.ga K "Survey"), (empA K (He.ma K (He.ga K "Survey") "__init__"))⟩ := {
    fn_w_begin := ⟨_, _, He.glo_ok X G (c.fact 0 (f := q0) rfl), F0⟩
    fn_w_take := ⟨_, _, He.glo_ok X G (c.fact 1 (f := q1) rfl), F1⟩
    fn_w_one := ⟨_, _, He.glo_ok X G (c.fact 2 (f := q2) rfl), F2⟩
    fn_w_steps := ⟨_, _, He.glo_ok X G (c.fact 3 (f := q3) rfl), F3⟩
    fn_w_names := ⟨_, _, He.glo_ok X G (c.fact 4 (f := q4) rfl), F4⟩
    fn_w_mixed := ⟨_, _, He.glo_ok X G (c.fact 5 (f := q5) rfl), F5⟩
    fn_w_facts := ⟨_, _, He.glo_ok X G (c.fact 6 (f := q6) rfl), F6⟩
    fn_w_shares := ⟨_, _, He.glo_ok X G (c.fact 7 (f := q7) rfl), F7⟩
    fn_is_list := ⟨_, _, He.glo_ok X G (c.fact 8 (f := q8) rfl), F8⟩
    fn_is_name := ⟨_, _, He.glo_ok X G (c.fact 9 (f := q9) rfl), F9⟩
    fn_is_whole := ⟨_, _, He.glo_ok X G (c.fact 10 (f := q10) rfl), F10⟩
    fn_common_divisor := ⟨_, _, He.glo_ok X G (c.fact 11 (f := q11) rfl), F11⟩
    me_RatioD_initD := ⟨_, _, (show PySem.W.findIn K (.ref (He.ga K "Ratio")) "__init__" = some (some (.ref (He.ma K (He.ga K "Ratio") "__init__"))) from He.eqO_ok (c.fact 12 (f := q12) rfl)), (show PySem.W.isFn K (.ref (He.ma K (He.ga K "Ratio") "__init__")) = true from (c.fact 13 (f := q13) rfl)), F12⟩
    pr_Ratio_bottom := ⟨_, _, _, ⟨(show PySem.W.findIn K (.ref (He.ga K "Ratio")) "bottom" = some (some (.ref (He.ma K (He.ga K "Ratio") "bottom"))) from He.eqO_ok (c.fact 17 (f := q17) rfl)), (show PySem.W.specialIn K (.ref (He.ma K (He.ga K "Ratio") "bottom")) "__get__" = some (some (.builtin "property.__get__")) from He.eqO_ok (c.fact 14 (f := q14) rfl)), (of_decide_eq_true (show decide (PySem.W.takesIn K (.ref (He.ma K (He.ga K "Ratio") "bottom")) = some true) = true from (c.fact 15 (f := q15) rfl))), (recB_ok (c.fact 16 (f := q16) rfl))⟩, F13⟩
    pr_Ratio_top := ⟨_, _, _, ⟨(show PySem.W.findIn K (.ref (He.ga K "Ratio")) "top" = some (some (.ref (He.ma K (He.ga K "Ratio") "top"))) from He.eqO_ok (c.fact 21 (f := q21) rfl)), (show PySem.W.specialIn K (.ref (He.ma K (He.ga K "Ratio") "top")) "__get__" = some (some (.builtin "property.__get__")) from He.eqO_ok (c.fact 18 (f := q18) rfl)), (of_decide_eq_true (show decide (PySem.W.takesIn K (.ref (He.ma K (He.ga K "Ratio") "top")) = some true) = true from (c.fact 19 (f := q19) rfl))), (recB_ok (c.fact 20 (f := q20) rfl))⟩, F14⟩
    me_Ratio_is_below := ⟨_, _, (show PySem.W.findIn K (.ref (He.ga K "Ratio")) "is_below" = some (some (.ref (He.ma K (He.ga K "Ratio") "is_below"))) from He.eqO_ok (c.fact 22 (f := q22) rfl)), (show PySem.W.isFn K (.ref (He.ma K (He.ga K "Ratio") "is_below")) = true from (c.fact 23 (f := q23) rfl)), F15⟩
    fn_is_between := ⟨_, _, He.glo_ok X G (c.fact 24 (f := q24) rfl), F16⟩
    me_RatioD_boolD := ⟨_, _, (show PySem.W.findIn K (.ref (He.ga K "Ratio")) "__bool__" = some (some (.ref (He.ma K (He.ga K "Ratio") "__bool__"))) from He.eqO_ok (c.fact 25 (f := q25) rfl)), (show PySem.W.isFn K (.ref (He.ma K (He.ga K "Ratio") "__bool__")) = true from (c.fact 26 (f := q26) rfl)), F17⟩
    me_RatioD_eqD := ⟨_, _, (show PySem.W.findIn K (.ref (He.ga K "Ratio")) "__eq__" = some (some (.ref (He.ma K (He.ga K "Ratio") "__eq__"))) from He.eqO_ok (c.fact 27 (f := q27) rfl)), (show PySem.W.isFn K (.ref (He.ma K (He.ga K "Ratio") "__eq__")) = true from (c.fact 28 (f := q28) rfl)), F18⟩
    fn_need_share := ⟨_, _, He.glo_ok X G (c.fact 29 (f := q29) rfl), F19⟩
    fn_is_ratio := ⟨_, _, He.glo_ok X G (c.fact 30 (f := q30) rfl), F20⟩
    fn_is_fact := ⟨_, _, He.glo_ok X G (c.fact 31 (f := q31) rfl), F21⟩
    me_RatioD_negD := ⟨_, _, (show PySem.W.findIn K (.ref (He.ga K "Ratio")) "__neg__" = some (some (.ref (He.ma K (He.ga K "Ratio") "__neg__"))) from He.eqO_ok (c.fact 32 (f := q32) rfl)), (show PySem.W.isFn K (.ref (He.ma K (He.ga K "Ratio") "__neg__")) = true from (c.fact 33 (f := q33) rfl)), F22⟩
    fn_bounds_of := ⟨_, _, He.glo_ok X G (c.fact 34 (f := q34) rfl), F23⟩
    me_RatioD_addD := ⟨_, _, (show PySem.W.findIn K (.ref (He.ga K "Ratio")) "__add__" = some (some (.ref (He.ma K (He.ga K "Ratio") "__add__"))) from He.eqO_ok (c.fact 35 (f := q35) rfl)), (show PySem.W.isFn K (.ref (He.ma K (He.ga K "Ratio") "__add__")) = true from (c.fact 36 (f := q36) rfl)), F24⟩
    fn_closed_bounds := ⟨_, _, He.glo_ok X G (c.fact 37 (f := q37) rfl), F25⟩
    me_SurveyD_initD := ⟨_, _, (show PySem.W.findIn K (.ref (He.ga K "Survey")) "__init__" = some (some (.ref (He.ma K (He.ga K "Survey") "__init__"))) from He.eqO_ok (c.fact 38 (f := q38) rfl)), (show PySem.W.isFn K (.ref (He.ma K (He.ga K "Survey") "__init__")) = true from (c.fact 39 (f := q39) rfl)), F26⟩
    fn_w_fact := ⟨_, _, He.glo_ok X G (c.fact 40 (f := q40) rfl), F27⟩
    fn_w_survey := ⟨_, _, He.glo_ok X G (c.fact 41 (f := q41) rfl), F28⟩
    me_RatioD_subD := ⟨_, _, (show PySem.W.findIn K (.ref (He.ga K "Ratio")) "__sub__" = some (some (.ref (He.ma K (He.ga K "Ratio") "__sub__"))) from He.eqO_ok (c.fact 42 (f := q42) rfl)), (show PySem.W.isFn K (.ref (He.ma K (He.ga K "Ratio") "__sub__")) = true from (c.fact 43 (f := q43) rfl)), F29⟩
    fn_w_is_fit := ⟨_, _, He.glo_ok X G (c.fact 44 (f := q44) rfl), F30⟩
    me_Survey_names := ⟨_, _, (show PySem.W.findIn K (.ref (He.ga K "Survey")) "names" = some (some (.ref (He.ma K (He.ga K "Survey") "names"))) from He.eqO_ok (c.fact 45 (f := q45) rfl)), (show PySem.W.isFn K (.ref (He.ma K (He.ga K "Survey") "names")) = true from (c.fact 46 (f := q46) rfl)), F31⟩
    fn_has_bounds := ⟨_, _, He.glo_ok X G (c.fact 47 (f := q47) rfl), F32⟩
    me_Survey_is_fit := ⟨_, _, (show PySem.W.findIn K (.ref (He.ga K "Survey")) "is_fit" = some (some (.ref (He.ma K (He.ga K "Survey") "is_fit"))) from He.eqO_ok (c.fact 48 (f := q48) rfl)), (show PySem.W.isFn K (.ref (He.ma K (He.ga K "Survey") "is_fit")) = true from (c.fact 49 (f := q49) rfl)), F33⟩
    fn_w_like := ⟨_, _, He.glo_ok X G (c.fact 50 (f := q50) rfl), F34⟩
    fn_law := ⟨_, _, He.glo_ok X G (c.fact 51 (f := q51) rfl), F35⟩
    b_abs := He.free_ok X G (c.fact 52 (f := q52) rfl)
    b_all := He.free_ok X G (c.fact 53 (f := q53) rfl)
    b_any := He.free_ok X G (c.fact 54 (f := q54) rfl)
    b_bool := He.free_ok X G (c.fact 55 (f := q55) rfl)
    b_enumerate := He.free_ok X G (c.fact 56 (f := q56) rfl)
    b_int := He.free_ok X G (c.fact 57 (f := q57) rfl)
    b_isinstance := He.free_ok X G (c.fact 58 (f := q58) rfl)
    b_len := He.free_ok X G (c.fact 59 (f := q59) rfl)
    b_list := He.free_ok X G (c.fact 60 (f := q60) rfl)
    b_range := He.free_ok X G (c.fact 61 (f := q61) rfl)
    b_str := He.free_ok X G (c.fact 62 (f := q62) rfl)
    b_tuple := He.free_ok X G (c.fact 63 (f := q63) rfl)
    b_zip := He.free_ok X G (c.fact 64 (f := q64) rfl)
    g_KINDS := ⟨_, He.glo_ok X G (c.fact 65 (f := q65) rfl), tupB_ok (c.fact 66 (f := q66) rfl)⟩
    g_LETTERS := He.str_ok X G (c.fact 67 (f := q67) rfl)
    g_LONGEST_NAME := He.int_ok X G (c.fact 68 (f := q68) rfl)
    g_MOST_LIGHTS := He.int_ok X G (c.fact 69 (f := q69) rfl)
    em_SurveyD_initD := tupB_ok (c.fact 70 (f := q70) rfl)
    cl_Ratio := (He.cls_ok (c.fact 71 (f := q71) rfl))
    gc_Ratio := He.glo_ok X G (c.fact 72 (f := q72) rfl)
    cl_Survey := (He.cls_ok (c.fact 73 (f := q73) rfl))
    gc_Survey := He.glo_ok X G (c.fact 74 (f := q74) rfl)
    mk_Ratio := ⟨(show PySem.W.makesIn K (He.ga K "Ratio") = true from (c.fact 75 (f := q75) rfl)), (show PySem.W.keepIn K (.ref (He.ga K "Ratio")) = true from (c.fact 76 (f := q76) rfl))⟩
    mk_Survey := ⟨(show PySem.W.makesIn K (He.ga K "Survey") = true from (c.fact 77 (f := q77) rfl)), (show PySem.W.keepIn K (.ref (He.ga K "Survey")) = true from (c.fact 78 (f := q78) rfl))⟩
    sf_Ratio := (show PySem.W.selfFirst K (He.ga K "Ratio") = true from (c.fact 79 (f := q79) rfl))
    fl_Ratio_own_bottom := ⟨(He.cls_ok (c.fact 71 (f := q71) rfl)), He.noat_ok (c.fact 80 (f := q80) rfl), (show nsRatio[1]? = some ("own_bottom" : Str) from by decide +kernel), (show ("own_bottom" : Str) ∉ nsRatio.take 1 from by decide +kernel)⟩
    fl_Ratio_own_top := ⟨(He.cls_ok (c.fact 71 (f := q71) rfl)), He.noat_ok (c.fact 81 (f := q81) rfl), (show nsRatio[0]? = some ("own_top" : Str) from by decide +kernel), (show ("own_top" : Str) ∉ nsRatio.take 0 from by decide +kernel)⟩
    fl_Survey_own_facts := ⟨(He.cls_ok (c.fact 73 (f := q73) rfl)), He.noat_ok (c.fact 82 (f := q82) rfl), (show nsSurvey[1]? = some ("own_facts" : Str) from by decide +kernel), (show ("own_facts" : Str) ∉ nsSurvey.take 1 from by decide +kernel)⟩
    fl_Survey_own_shares := ⟨(He.cls_ok (c.fact 73 (f := q73) rfl)), He.noat_ok (c.fact 83 (f := q83) rfl), (show nsSurvey[0]? = some ("own_shares" : Str) from by decide +kernel), (show ("own_shares" : Str) ∉ nsSurvey.take 0 from by decide +kernel)⟩
    fl_Survey_tables := ⟨(He.cls_ok (c.fact 73 (f := q73) rfl)), He.noat_ok (c.fact 84 (f := q84) rfl), (show nsSurvey[2]? = some ("tables" : Str) from by decide +kernel), (show ("tables" : Str) ∉ nsSurvey.take 2 from by decide +kernel)⟩
    in_Ratio := ⟨(He.cls_ok (c.fact 71 (f := q71) rfl)), (show PySem.W.findIn K (.ref (He.ga K "Ratio")) "__class__" = some (some (.builtin "object.__class__")) from He.eqO_ok (c.fact 87 (f := q87) rfl)), (show PySem.W.specialIn K (.builtin "object.__class__") "__get__" = some (some (.builtin "getset_descriptor.__get__")) from He.eqO_ok (c.fact 85 (f := q85) rfl)), (of_decide_eq_true (show decide (PySem.W.takesIn K (.builtin "object.__class__") = some true) = true from (c.fact 86 (f := q86) rfl))), (of_decide_eq_true (show decide (PySem.W.mroIn K (He.ga K "Ratio") (.type "object") = some true) = true from (c.fact 88 (f := q88) rfl)))⟩
    nf_Ratio_ownccRatio := (show PySem.W.notFirst K (He.ga K "Ratio") (.ref (He.ga K "Ratio")) = true from (c.fact 89 (f := q89) rfl))
    nf_Ratio_primNoneType := (show PySem.W.notFirst K (He.ga K "Ratio") (.type "NoneType") = true from (c.fact 90 (f := q90) rfl))
    nf_Ratio_primlist := (show PySem.W.notFirst K (He.ga K "Ratio") (.type "list") = true from (c.fact 91 (f := q91) rfl))
    nf_Ratio_primstr := (show PySem.W.notFirst K (He.ga K "Ratio") (.type "str") = true from (c.fact 92 (f := q92) rfl))
    nf_Ratio_primtuple := (show PySem.W.notFirst K (He.ga K "Ratio") (.type "tuple") = true from (c.fact 93 (f := q93) rfl))
    ans_Ratio__Ratio := by
      refine ⟨fun n hn => ?_, fun p hp => ?_⟩
      · simp only [primNames, List.mem_cons, List.not_mem_nil, or_false] at hn
        rcases hn with rfl | rfl | rfl | rfl | rfl | rfl
        · exact (of_decide_eq_true (show decide (PySem.W.kitAny K (.type "NoneType") [.ref (He.ga K "Ratio")] = some false) = true from (c.fact 94 (f := q94) rfl)))
        · exact (of_decide_eq_true (show decide (PySem.W.kitAny K (.type "bool") [.ref (He.ga K "Ratio")] = some false) = true from (c.fact 95 (f := q95) rfl)))
        · exact (of_decide_eq_true (show decide (PySem.W.kitAny K (.type "int") [.ref (He.ga K "Ratio")] = some false) = true from (c.fact 96 (f := q96) rfl)))
        · exact (of_decide_eq_true (show decide (PySem.W.kitAny K (.type "str") [.ref (He.ga K "Ratio")] = some false) = true from (c.fact 97 (f := q97) rfl)))
        · exact (of_decide_eq_true (show decide (PySem.W.kitAny K (.type "tuple") [.ref (He.ga K "Ratio")] = some false) = true from (c.fact 98 (f := q98) rfl)))
        · exact (of_decide_eq_true (show decide (PySem.W.kitAny K (.type "list") [.ref (He.ga K "Ratio")] = some false) = true from (c.fact 99 (f := q99) rfl)))
      · simp only [ans_Ratio__Ratio, List.mem_cons, List.not_mem_nil, or_false] at hp
        subst hp
        · exact ⟨(of_decide_eq_true (show decide (PySem.W.kitAny K (.ref (He.ga K "Ratio")) [.ref (He.ga K "Ratio")] = some true) = true from (c.fact 100 (f := q100) rfl))), ⟨(He.cls_ok (c.fact 71 (f := q71) rfl)), (show PySem.W.findIn K (.ref (He.ga K "Ratio")) "__class__" = some (some (.builtin "object.__class__")) from He.eqO_ok (c.fact 87 (f := q87) rfl)), (show PySem.W.specialIn K (.builtin "object.__class__") "__get__" = some (some (.builtin "getset_descriptor.__get__")) from He.eqO_ok (c.fact 85 (f := q85) rfl)), (of_decide_eq_true (show decide (PySem.W.takesIn K (.builtin "object.__class__") = some true) = true from (c.fact 86 (f := q86) rfl))), (of_decide_eq_true (show decide (PySem.W.mroIn K (He.ga K "Ratio") (.type "object") = some true) = true from (c.fact 88 (f := q88) rfl)))⟩⟩
    ans_bool := by
      refine ⟨fun n hn => ?_, fun p hp => ?_⟩
      · simp only [primNames, List.mem_cons, List.not_mem_nil, or_false] at hn
        rcases hn with rfl | rfl | rfl | rfl | rfl | rfl
        · exact (of_decide_eq_true (show decide (PySem.W.kitAny K (.type "NoneType") [.type "bool"] = some false) = true from (c.fact 101 (f := q101) rfl)))
        · exact (of_decide_eq_true (show decide (PySem.W.kitAny K (.type "bool") [.type "bool"] = some true) = true from (c.fact 102 (f := q102) rfl)))
        · exact (of_decide_eq_true (show decide (PySem.W.kitAny K (.type "int") [.type "bool"] = some false) = true from (c.fact 103 (f := q103) rfl)))
        · exact (of_decide_eq_true (show decide (PySem.W.kitAny K (.type "str") [.type "bool"] = some false) = true from (c.fact 104 (f := q104) rfl)))
        · exact (of_decide_eq_true (show decide (PySem.W.kitAny K (.type "tuple") [.type "bool"] = some false) = true from (c.fact 105 (f := q105) rfl)))
        · exact (of_decide_eq_true (show decide (PySem.W.kitAny K (.type "list") [.type "bool"] = some false) = true from (c.fact 106 (f := q106) rfl)))
      · simp only [ans_bool, List.mem_cons, List.not_mem_nil, or_false] at hp
    ans_bool__Ratio := by
      refine ⟨fun n hn => ?_, fun p hp => ?_⟩
      · simp only [primNames, List.mem_cons, List.not_mem_nil, or_false] at hn
        rcases hn with rfl | rfl | rfl | rfl | rfl | rfl
        · exact (of_decide_eq_true (show decide (PySem.W.kitAny K (.type "NoneType") [.type "bool"] = some false) = true from (c.fact 107 (f := q107) rfl)))
        · exact (of_decide_eq_true (show decide (PySem.W.kitAny K (.type "bool") [.type "bool"] = some true) = true from (c.fact 108 (f := q108) rfl)))
        · exact (of_decide_eq_true (show decide (PySem.W.kitAny K (.type "int") [.type "bool"] = some false) = true from (c.fact 109 (f := q109) rfl)))
        · exact (of_decide_eq_true (show decide (PySem.W.kitAny K (.type "str") [.type "bool"] = some false) = true from (c.fact 110 (f := q110) rfl)))
        · exact (of_decide_eq_true (show decide (PySem.W.kitAny K (.type "tuple") [.type "bool"] = some false) = true from (c.fact 111 (f := q111) rfl)))
        · exact (of_decide_eq_true (show decide (PySem.W.kitAny K (.type "list") [.type "bool"] = some false) = true from (c.fact 112 (f := q112) rfl)))
      · simp only [ans_bool__Ratio, List.mem_cons, List.not_mem_nil, or_false] at hp
        subst hp
        · exact ⟨(of_decide_eq_true (show decide (PySem.W.kitAny K (.ref (He.ga K "Ratio")) [.type "bool"] = some false) = true from (c.fact 113 (f := q113) rfl))), ⟨(He.cls_ok (c.fact 71 (f := q71) rfl)), (show PySem.W.findIn K (.ref (He.ga K "Ratio")) "__class__" = some (some (.builtin "object.__class__")) from He.eqO_ok (c.fact 87 (f := q87) rfl)), (show PySem.W.specialIn K (.builtin "object.__class__") "__get__" = some (some (.builtin "getset_descriptor.__get__")) from He.eqO_ok (c.fact 85 (f := q85) rfl)), (of_decide_eq_true (show decide (PySem.W.takesIn K (.builtin "object.__class__") = some true) = true from (c.fact 86 (f := q86) rfl))), (of_decide_eq_true (show decide (PySem.W.mroIn K (He.ga K "Ratio") (.type "object") = some true) = true from (c.fact 88 (f := q88) rfl)))⟩⟩
    ans_int := by
      refine ⟨fun n hn => ?_, fun p hp => ?_⟩
      · simp only [primNames, List.mem_cons, List.not_mem_nil, or_false] at hn
        rcases hn with rfl | rfl | rfl | rfl | rfl | rfl
        · exact (of_decide_eq_true (show decide (PySem.W.kitAny K (.type "NoneType") [.type "int"] = some false) = true from (c.fact 114 (f := q114) rfl)))
        · exact (of_decide_eq_true (show decide (PySem.W.kitAny K (.type "bool") [.type "int"] = some true) = true from (c.fact 115 (f := q115) rfl)))
        · exact (of_decide_eq_true (show decide (PySem.W.kitAny K (.type "int") [.type "int"] = some true) = true from (c.fact 116 (f := q116) rfl)))
        · exact (of_decide_eq_true (show decide (PySem.W.kitAny K (.type "str") [.type "int"] = some false) = true from (c.fact 117 (f := q117) rfl)))
        · exact (of_decide_eq_true (show decide (PySem.W.kitAny K (.type "tuple") [.type "int"] = some false) = true from (c.fact 118 (f := q118) rfl)))
        · exact (of_decide_eq_true (show decide (PySem.W.kitAny K (.type "list") [.type "int"] = some false) = true from (c.fact 119 (f := q119) rfl)))
      · simp only [ans_int, List.mem_cons, List.not_mem_nil, or_false] at hp
    ans_int__Ratio := by
      refine ⟨fun n hn => ?_, fun p hp => ?_⟩
      · simp only [primNames, List.mem_cons, List.not_mem_nil, or_false] at hn
        rcases hn with rfl | rfl | rfl | rfl | rfl | rfl
        · exact (of_decide_eq_true (show decide (PySem.W.kitAny K (.type "NoneType") [.type "int"] = some false) = true from (c.fact 120 (f := q120) rfl)))
        · exact (of_decide_eq_true (show decide (PySem.W.kitAny K (.type "bool") [.type "int"] = some true) = true from (c.fact 121 (f := q121) rfl)))
        · exact (of_decide_eq_true (show decide (PySem.W.kitAny K (.type "int") [.type "int"] = some true) = true from (c.fact 122 (f := q122) rfl)))
        · exact (of_decide_eq_true (show decide (PySem.W.kitAny K (.type "str") [.type "int"] = some false) = true from (c.fact 123 (f := q123) rfl)))
        · exact (of_decide_eq_true (show decide (PySem.W.kitAny K (.type "tuple") [.type "int"] = some false) = true from (c.fact 124 (f := q124) rfl)))
        · exact (of_decide_eq_true (show decide (PySem.W.kitAny K (.type "list") [.type "int"] = some false) = true from (c.fact 125 (f := q125) rfl)))
      · simp only [ans_int__Ratio, List.mem_cons, List.not_mem_nil, or_false] at hp
        subst hp
        · exact ⟨(of_decide_eq_true (show decide (PySem.W.kitAny K (.ref (He.ga K "Ratio")) [.type "int"] = some false) = true from (c.fact 126 (f := q126) rfl))), ⟨(He.cls_ok (c.fact 71 (f := q71) rfl)), (show PySem.W.findIn K (.ref (He.ga K "Ratio")) "__class__" = some (some (.builtin "object.__class__")) from He.eqO_ok (c.fact 87 (f := q87) rfl)), (show PySem.W.specialIn K (.builtin "object.__class__") "__get__" = some (some (.builtin "getset_descriptor.__get__")) from He.eqO_ok (c.fact 85 (f := q85) rfl)), (of_decide_eq_true (show decide (PySem.W.takesIn K (.builtin "object.__class__") = some true) = true from (c.fact 86 (f := q86) rfl))), (of_decide_eq_true (show decide (PySem.W.mroIn K (He.ga K "Ratio") (.type "object") = some true) = true from (c.fact 88 (f := q88) rfl)))⟩⟩
    ans_list := by
      refine ⟨fun n hn => ?_, fun p hp => ?_⟩
      · simp only [primNames, List.mem_cons, List.not_mem_nil, or_false] at hn
        rcases hn with rfl | rfl | rfl | rfl | rfl | rfl
        · exact (of_decide_eq_true (show decide (PySem.W.kitAny K (.type "NoneType") [.type "list"] = some false) = true from (c.fact 127 (f := q127) rfl)))
        · exact (of_decide_eq_true (show decide (PySem.W.kitAny K (.type "bool") [.type "list"] = some false) = true from (c.fact 128 (f := q128) rfl)))
        · exact (of_decide_eq_true (show decide (PySem.W.kitAny K (.type "int") [.type "list"] = some false) = true from (c.fact 129 (f := q129) rfl)))
        · exact (of_decide_eq_true (show decide (PySem.W.kitAny K (.type "str") [.type "list"] = some false) = true from (c.fact 130 (f := q130) rfl)))
        · exact (of_decide_eq_true (show decide (PySem.W.kitAny K (.type "tuple") [.type "list"] = some false) = true from (c.fact 131 (f := q131) rfl)))
        · exact (of_decide_eq_true (show decide (PySem.W.kitAny K (.type "list") [.type "list"] = some true) = true from (c.fact 132 (f := q132) rfl)))
      · simp only [ans_list, List.mem_cons, List.not_mem_nil, or_false] at hp
    ans_list_tuple := by
      refine ⟨fun n hn => ?_, fun p hp => ?_⟩
      · simp only [primNames, List.mem_cons, List.not_mem_nil, or_false] at hn
        rcases hn with rfl | rfl | rfl | rfl | rfl | rfl
        · exact (of_decide_eq_true (show decide (PySem.W.kitAny K (.type "NoneType") [.type "list", .type "tuple"] = some false) = true from (c.fact 133 (f := q133) rfl)))
        · exact (of_decide_eq_true (show decide (PySem.W.kitAny K (.type "bool") [.type "list", .type "tuple"] = some false) = true from (c.fact 134 (f := q134) rfl)))
        · exact (of_decide_eq_true (show decide (PySem.W.kitAny K (.type "int") [.type "list", .type "tuple"] = some false) = true from (c.fact 135 (f := q135) rfl)))
        · exact (of_decide_eq_true (show decide (PySem.W.kitAny K (.type "str") [.type "list", .type "tuple"] = some false) = true from (c.fact 136 (f := q136) rfl)))
        · exact (of_decide_eq_true (show decide (PySem.W.kitAny K (.type "tuple") [.type "list", .type "tuple"] = some true) = true from (c.fact 137 (f := q137) rfl)))
        · exact (of_decide_eq_true (show decide (PySem.W.kitAny K (.type "list") [.type "list", .type "tuple"] = some true) = true from (c.fact 138 (f := q138) rfl)))
      · simp only [ans_list_tuple, List.mem_cons, List.not_mem_nil, or_false] at hp
    ans_str := by
      refine ⟨fun n hn => ?_, fun p hp => ?_⟩
      · simp only [primNames, List.mem_cons, List.not_mem_nil, or_false] at hn
        rcases hn with rfl | rfl | rfl | rfl | rfl | rfl
        · exact (of_decide_eq_true (show decide (PySem.W.kitAny K (.type "NoneType") [.type "str"] = some false) = true from (c.fact 139 (f := q139) rfl)))
        · exact (of_decide_eq_true (show decide (PySem.W.kitAny K (.type "bool") [.type "str"] = some false) = true from (c.fact 140 (f := q140) rfl)))
        · exact (of_decide_eq_true (show decide (PySem.W.kitAny K (.type "int") [.type "str"] = some false) = true from (c.fact 141 (f := q141) rfl)))
        · exact (of_decide_eq_true (show decide (PySem.W.kitAny K (.type "str") [.type "str"] = some true) = true from (c.fact 142 (f := q142) rfl)))
        · exact (of_decide_eq_true (show decide (PySem.W.kitAny K (.type "tuple") [.type "str"] = some false) = true from (c.fact 143 (f := q143) rfl)))
        · exact (of_decide_eq_true (show decide (PySem.W.kitAny K (.type "list") [.type "str"] = some false) = true from (c.fact 144 (f := q144) rfl)))
      · simp only [ans_str, List.mem_cons, List.not_mem_nil, or_false] at hp
    ans_str__Ratio := by
      refine ⟨fun n hn => ?_, fun p hp => ?_⟩
      · simp only [primNames, List.mem_cons, List.not_mem_nil, or_false] at hn
        rcases hn with rfl | rfl | rfl | rfl | rfl | rfl
        · exact (of_decide_eq_true (show decide (PySem.W.kitAny K (.type "NoneType") [.type "str"] = some false) = true from (c.fact 145 (f := q145) rfl)))
        · exact (of_decide_eq_true (show decide (PySem.W.kitAny K (.type "bool") [.type "str"] = some false) = true from (c.fact 146 (f := q146) rfl)))
        · exact (of_decide_eq_true (show decide (PySem.W.kitAny K (.type "int") [.type "str"] = some false) = true from (c.fact 147 (f := q147) rfl)))
        · exact (of_decide_eq_true (show decide (PySem.W.kitAny K (.type "str") [.type "str"] = some true) = true from (c.fact 148 (f := q148) rfl)))
        · exact (of_decide_eq_true (show decide (PySem.W.kitAny K (.type "tuple") [.type "str"] = some false) = true from (c.fact 149 (f := q149) rfl)))
        · exact (of_decide_eq_true (show decide (PySem.W.kitAny K (.type "list") [.type "str"] = some false) = true from (c.fact 150 (f := q150) rfl)))
      · simp only [ans_str__Ratio, List.mem_cons, List.not_mem_nil, or_false] at hp
        subst hp
        · exact ⟨(of_decide_eq_true (show decide (PySem.W.kitAny K (.ref (He.ga K "Ratio")) [.type "str"] = some false) = true from (c.fact 151 (f := q151) rfl))), ⟨(He.cls_ok (c.fact 71 (f := q71) rfl)), (show PySem.W.findIn K (.ref (He.ga K "Ratio")) "__class__" = some (some (.builtin "object.__class__")) from He.eqO_ok (c.fact 87 (f := q87) rfl)), (show PySem.W.specialIn K (.builtin "object.__class__") "__get__" = some (some (.builtin "getset_descriptor.__get__")) from He.eqO_ok (c.fact 85 (f := q85) rfl)), (of_decide_eq_true (show decide (PySem.W.takesIn K (.builtin "object.__class__") = some true) = true from (c.fact 86 (f := q86) rfl))), (of_decide_eq_true (show decide (PySem.W.mroIn K (He.ga K "Ratio") (.type "object") = some true) = true from (c.fact 88 (f := q88) rfl)))⟩⟩
    ans_tuple := by
      refine ⟨fun n hn => ?_, fun p hp => ?_⟩
      · simp only [primNames, List.mem_cons, List.not_mem_nil, or_false] at hn
        rcases hn with rfl | rfl | rfl | rfl | rfl | rfl
        · exact (of_decide_eq_true (show decide (PySem.W.kitAny K (.type "NoneType") [.type "tuple"] = some false) = true from (c.fact 152 (f := q152) rfl)))
        · exact (of_decide_eq_true (show decide (PySem.W.kitAny K (.type "bool") [.type "tuple"] = some false) = true from (c.fact 153 (f := q153) rfl)))
        · exact (of_decide_eq_true (show decide (PySem.W.kitAny K (.type "int") [.type "tuple"] = some false) = true from (c.fact 154 (f := q154) rfl)))
        · exact (of_decide_eq_true (show decide (PySem.W.kitAny K (.type "str") [.type "tuple"] = some false) = true from (c.fact 155 (f := q155) rfl)))
        · exact (of_decide_eq_true (show decide (PySem.W.kitAny K (.type "tuple") [.type "tuple"] = some true) = true from (c.fact 156 (f := q156) rfl)))
        · exact (of_decide_eq_true (show decide (PySem.W.kitAny K (.type "list") [.type "tuple"] = some false) = true from (c.fact 157 (f := q157) rfl)))
      · simp only [ans_tuple, List.mem_cons, List.not_mem_nil, or_false] at hp
    ans_tuple__Ratio := by
      refine ⟨fun n hn => ?_, fun p hp => ?_⟩
      · simp only [primNames, List.mem_cons, List.not_mem_nil, or_false] at hn
        rcases hn with rfl | rfl | rfl | rfl | rfl | rfl
        · exact (of_decide_eq_true (show decide (PySem.W.kitAny K (.type "NoneType") [.type "tuple"] = some false) = true from (c.fact 158 (f := q158) rfl)))
        · exact (of_decide_eq_true (show decide (PySem.W.kitAny K (.type "bool") [.type "tuple"] = some false) = true from (c.fact 159 (f := q159) rfl)))
        · exact (of_decide_eq_true (show decide (PySem.W.kitAny K (.type "int") [.type "tuple"] = some false) = true from (c.fact 160 (f := q160) rfl)))
        · exact (of_decide_eq_true (show decide (PySem.W.kitAny K (.type "str") [.type "tuple"] = some false) = true from (c.fact 161 (f := q161) rfl)))
        · exact (of_decide_eq_true (show decide (PySem.W.kitAny K (.type "tuple") [.type "tuple"] = some true) = true from (c.fact 162 (f := q162) rfl)))
        · exact (of_decide_eq_true (show decide (PySem.W.kitAny K (.type "list") [.type "tuple"] = some false) = true from (c.fact 163 (f := q163) rfl)))
      · simp only [ans_tuple__Ratio, List.mem_cons, List.not_mem_nil, or_false] at hp
        subst hp
        · exact ⟨(of_decide_eq_true (show decide (PySem.W.kitAny K (.ref (He.ga K "Ratio")) [.type "tuple"] = some false) = true from (c.fact 164 (f := q164) rfl))), ⟨(He.cls_ok (c.fact 71 (f := q71) rfl)), (show PySem.W.findIn K (.ref (He.ga K "Ratio")) "__class__" = some (some (.builtin "object.__class__")) from He.eqO_ok (c.fact 87 (f := q87) rfl)), (show PySem.W.specialIn K (.builtin "object.__class__") "__get__" = some (some (.builtin "getset_descriptor.__get__")) from He.eqO_ok (c.fact 85 (f := q85) rfl)), (of_decide_eq_true (show decide (PySem.W.takesIn K (.builtin "object.__class__") = some true) = true from (c.fact 86 (f := q86) rfl))), (of_decide_eq_true (show decide (PySem.W.mroIn K (He.ga K "Ratio") (.type "object") = some true) = true from (c.fact 88 (f := q88) rfl)))⟩⟩
  }
  have e := hfa.symm.trans (He.glo_ok X G (c.fact 51 (f := q51) rfl))
  cases e
  have b := FunD.bindsA (ps := ["_law_script"]) F35 fun _ _ _ _ _ _ us hl => match us, hl with | [_], _ => rfl
  exact ⟨fd35, _, ⟨(of_decide_eq_true (show decide ((He.ga K "Ratio") ≠ (He.ga K "Survey")) = true from (c.fact 165 (f := q165) rfl))), trivial⟩, fun s v => b s [v] rfl, fun base _ _ => ok_law T F35⟩
theorem law_end {l : PySem.W.OpenLaw} {n : Nat} {q : Program} {loose : List Str} {XP : (Str → Option Value) → Heap → Prop} {d : DefRec} (hn : l.most = some 63) (hdf : d.params.defaults = []) (hnm : d.name = ("law" : Str)) :
    PySem.W.WalkO q loose XP (hookK n fs ds).says l.row.toRowW d [] (fun f vs => PySem.call f vs) := by
  refine walk_ofK (n := 63) (k := 11) (x := "_law_script") hn (by decide) hdf ⟨rfl, by decide, by decide⟩ fun w mg fa h Y G hmg => ?_
  obtain ⟨K, KX, c⟩ := Y
  rw [hnm] at hmg
  obtain ⟨fd, cc, hc, hb, hF⟩ := facts (P := l.prog) (w := w) KX G hmg c
  exact ⟨K, fd, spLaw K, KX, hb, fun H a ns hl hS => ⟨a, ns, rfl, hS, hl, (fun _ h => nomatch h), fun _ => rfl⟩, fun base b1 b2 => law_sp (hF base b1 b2) (law_true cc hc)⟩
end W
open PySem PySem.W PyProof.Rows
set_option maxRecDepth 100000 in
set_option maxHeartbeats 0 in
theorem PySem.Challenge.cw_bothgreen_k48_fits_of_surveys_holds : PySem.Challenge.rw_bothgreen_k48_fits_of_surveys.Holds := by
  w_on; o_law
  refine HandSHeadRun.head_any (r := W.R0) (q := W.qv) (H := DL.hookK 6 W.fs W.ds) (ob := W.ob) (M := 40000) (loose := W.loose) (d := HandSHeadRun.topDef W.R0.prog 48) (kwd := []) W.ob_eq (by kernel_rfl) (fun s => by kernel_rfl) W.run (by kernel_rfl) (by kernel_rfl) (by kernel_rfl) (by rfl) (by first | assumption | decide +kernel) (by decide +kernel) ⟨rfl, rfl, rfl, rfl, rfl, by decide +kernel⟩ ?hw ?hc
  case hw => w_witness2
  case hc => exact W.law_end (l := PySem.Challenge.rw_bothgreen_k48_fits_of_surveys) rfl (by kernel_rfl) (by kernel_rfl)

