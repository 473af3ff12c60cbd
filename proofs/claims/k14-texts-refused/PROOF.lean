import PyProof.Rows.All
import HandS.HeadHook4
import HandS.HeadWalk
import HandS.Head2
import HandS.EndTab
import HandS.Property
import HandS.ExcField
import HandS.ExcInit
import HandS.Words
import Wide.All
import OpenK.AllK
import Wide.FinOn
import HandS.Base
import HandS.Call
import HandS.List
import HandS.Comp
import HandS.Ends
import HandS.Dict
import HandS.Iter
import HandS.Text
import HandS.Defaults
import HandS.Wide
import HandS.Exc
import HandS.WordsExc
import HandS.Evl
import HandS.Zip
import KE.GoesMore
import HandS.Style
import KE.KExcSuper
import HandS.Nested
import KE.KTryMore
import HandS.TryOnly
import HandS.IsInst
import HandS.NoneIn
import KE.KLam
import HandS.TupLe
import HandS.TupAny
import HandS.Deep
import HandS.TupSets
import HandS.MakeKwOnly
import HandS.ClsMeth
import HandS.SetTxt0
import HandS.SetBool
import PyProof.Rows.SortStr
import PyProof.Rows.SortShellK
import KE.DataMinMax
import KE.SortData
import PyProof.P3In
import HandS.OwnEq
import HandS.Codes
import HandS.FStr
import PyProof.EnumMake
import PyProof.TupleIter
import HandS.Walk
import KE.KRevSl
import KE.GoesEnum
import PyProof.StrOps2
import HandS.RaiseMore
import HandS.DictComp
import KE.KUnpackStar
import HandS.Star
import KE.KOpsOwn
import PySem.Challenge.RW_boughtoll_k14_texts_refused
set_option Elab.async false
set_option linter.all false
set_option maxRecDepth 100000
set_option maxHeartbeats 4000000
/-! what the head looks at: a part of the heap, what it tells -/
namespace Z
open PySem L2
abbrev cA (K : PySem.W.Frag) (x : Str) : Addr := He.ga K x
abbrev iA (K : PySem.W.Frag) (x : Str) : Addr := He.ma K (He.ga K x) "__init__"
/-- the class object at C is one of an own error -/
def oexB (K : PySem.W.Frag) (C : Addr) : Bool := match K.lookup C with
  | some ⟨.type T, _, .cls cd, sl⟩ => (match cd.mro, sl.toList with
    | .ref C' :: bm, [_, _, _, _, some (.builtin n), _] => decide (T = "type") && (decide (C' = C) && (decide (n = "ValueError.__new__") && (!cd.hasDel && (cd.hasDict && PySem.HandSPX.refsVE bm))))
    | _, _ => false)
  | _ => false
def oxB (K : PySem.W.Frag) (C : Addr) : Bool := oexB K C && (He.eqO (PySem.W.findIn K (.ref C) "__setattr__") (some (some (.builtin "object.__setattr__"))) && (decide (PySem.W.subIn K (.ref C) (.type "BaseException") = some true) && (decide (PySem.W.typeIn K (.ref C) = some (.type "type")) && PySem.W.keepIn K (.ref C))))
/-- what the code object and the cell of its __init__ tell -/
def cdB (P : Program) (K : PySem.W.Frag) (C : Addr) (f : Addr) (qual : Str) : Bool := match K.lookup f with
  | some ⟨_, _, .func fd, _⟩ => (match fd.defaults, fd.code, fd.closure with
    | .none, .ref c, [(_, cc)] => PySem.W.codeIn K (.ref c) qual && ((match K.lookup cc with
        | some ⟨_, _, .cell (some (.ref D)), _⟩ => decide (D = C)
        | _ => false) && (match K.lookup c with
        | some ⟨_, _, .fields vs, _⟩ => (match vs[2]? with
          | some (Value.str file _) => (P.main.file : Str) == file
          | _ => false)
        | _ => false))
    | _, _, _ => false)
  | _ => false
/-- an own error's class x with an __init__ of its own, that says super().__init__(..) -/
def exiB (P : Program) (K : PySem.W.Frag) (x : Str) : Bool := oxB K (cA K x) && (cdB P K (cA K x) (iA K x) (x ++ ".__init__") && ((PySem.W.clsIn K (cA K x)).isSome && (decide (PySem.W.mroIn K (cA K x) (.ref (cA K x)) = some true) &&
  (He.eqO (PySem.W.ks_superIn K (cA K x) (cA K x) "__init__") (some (some (.builtin "ValueError.__init__"))) && (decide (PySem.W.subIn K (.ref (cA K x)) (.type "ValueError") = some true) && (He.eqO (PySem.W.nsIn K cStatics "thirdparty.any") (some none) &&
  (He.eqO (PySem.W.findIn K (.ref (cA K x)) "__init__") (some (some (.ref (iA K x)))) && decide (PySem.W.typeIn K (.ref (iA K x)) = some (.type "function")))))))))
abbrev FnC : Type := Option (Str × Str × Arguments × FuncBody × Scope × Addr × List Str × Addr)
def fnC (K : PySem.W.Frag) (x : Str) : FnC := match K.lookup (iA K x) with
  | some ⟨_, _, .func fd, _⟩ => some (fd.name, fd.qualname, fd.params, fd.body, fd.scope, fd.globals, fd.closure.map (·.1), fd.builtins)
  | _ => none
def valC (x : Str) (st : Stmt) : FnC := some ("__init__", x ++ ".__init__", defArgs st, .stmts (defBody st), defScope st, mainGlobals, ["__class__"], builtinsNs)
/-! ### properties; errors' inits and properties' getters as what the hook looks at -/
def gA (K : PySem.W.Frag) (C y : Str) : Addr := match PySem.W.recIn K (He.ma K (He.ga K C) y) "property" with
  | some (.ref g :: _) => g
  | _ => 0
def fnG (K : PySem.W.Frag) (C y : Str) : FnC := match K.lookup (gA K C y) with
  | some ⟨_, _, .func fd, _⟩ => some (fd.name, fd.qualname, fd.params, fd.body, fd.scope, fd.globals, fd.closure.map (·.1), fd.builtins)
  | _ => none
/-- the function of the class method m of the class C -/
def wA (K : PySem.W.Frag) (C m : Str) : Addr := match PySem.W.recIn K (He.ma K (He.ga K C) m) "classmethod" with
  | some (.ref g :: _) => g
  | _ => 0
def fnW (K : PySem.W.Frag) (C m : Str) : FnC := match K.lookup (wA K C m) with
  | some ⟨_, _, .func fd, _⟩ => some (fd.name, fd.qualname, fd.params, fd.body, fd.scope, fd.globals, fd.closure.map (·.1), fd.builtins)
  | _ => none
inductive EsD where
  | ini (x : Str) (st : Stmt)
  | prop (C y q : Str) (st : Stmt)
  | clm (C m q : Str) (st : Stmt)
def fnE (K : PySem.W.Frag) : EsD → FnC
  | .ini x _ => fnC K x
  | .prop C y _ _ => fnG K C y
  | .clm C m _ _ => fnW K C m
def valE : EsD → FnC
  | .ini x st => valC x st
  | .prop _ y q st => some (y, q, defArgs st, .stmts (defBody st), defScope st, mainGlobals, [], builtinsNs)
  | .clm _ m q st => some (m, q, defArgs st, .stmts (defBody st), defScope st, mainGlobals, [], builtinsNs)
/-- what is told of a class method -/
def clmB (K : PySem.W.Frag) (C m q : Str) : Bool := PySem.W.readsIn K (He.ga K C) (.type "type") && (He.eqO (PySem.W.specialIn K (.ref (He.ga K C)) "__getattribute__") (some (some (.builtin "type.__getattribute__"))) &&
  ((match PySem.W.findCls K (.ref (He.ga K C)) (.type "type") m with
    | some (.get (.builtin g) (.ref p) .none (.ref D)) => decide (g = "classmethod.__get__") && (decide (p = He.ma K (He.ga K C) m) && decide (D = He.ga K C))
    | _ => false) && ((match PySem.W.recIn K (He.ma K (He.ga K C) m) "classmethod" with
    | some (.ref _ :: _) => true
    | _ => false) && (PySem.W.fnIn K (wA K C m) && (PySem.W.keepIn K (.ref (wA K C m)) && (match K.lookup (wA K C m) with
    | some ⟨_, _, .func fd, _⟩ => PySem.W.codeIn K fd.code q && He.dflB K fd.defaults []
    | _ => false))))))
def propB (K : PySem.W.Frag) (C y q : Str) : Bool := He.eqO (PySem.W.findIn K (.ref (He.ga K C)) y) (some (some (.ref (He.ma K (He.ga K C) y)))) && (He.eqO (PySem.W.specialIn K (.ref (He.ma K (He.ga K C) y)) "__get__") (some (some (.builtin "property.__get__"))) && (decide (PySem.W.takesIn K (.ref (He.ma K (He.ga K C) y)) = some true) &&
  ((match PySem.W.recIn K (He.ma K (He.ga K C) y) "property" with
    | some (.ref _ :: _) => true
    | _ => false) && (PySem.W.keepIn K (.ref (gA K C y)) && (match K.lookup (gA K C y) with
    | some ⟨_, _, .func fd, _⟩ => PySem.W.codeIn K fd.code q && He.dflB K fd.defaults []
    | _ => false)))))
/-! ### the hook -/
/-- the names that the facts tell of -/
def namesY (fa : List He.Fa) : List Str := fa.filterMap fun
  | .glo x => some x
  | _ => none
def keyY (xs : List Str) : Value → Bool
  | .str x _ => xs.contains x
  | _ => false
def rootY (g : Addr → Option Obj) (xs : List Str) : List Addr := match g mainGlobals with
  | some ⟨_, _, .dict es _, _⟩ => es.toList.flatMap fun e => match keyY xs e.key with
    | true => He.refV e.val
    | false => []
  | _ => []
def stepY (g : Addr → Option Obj) (a : Addr) : List Addr := match g a with
  | some o => (He.refsD o).filter fun b => !Nat.beq a b
  | none => []
/-- what these reach in n steps, step by step -/
def lvY (g : Addr → Option Obj) : Nat → List Addr → List Addr
  | 0, as => as
  | n + 1, as => as ++ lvY g n (as.flatMap (stepY g))
def asY (g : Addr → Option Obj) (n : Nat) (fa : List He.Fa) : List Addr := mainGlobals :: cStatics :: lvY g n (rootY g (namesY fa))
def kY (g : Addr → Option Obj) (n : Nat) (fa : List He.Fa) : PySem.W.Frag := He.frT g (asY g n fa)
/-- what is told of K and the heap: facts, defs, the Bool ex, the errors' inits, the tables of tf: empty, not in K -/
structure SaysY (fa : List He.Fa) (fn : List He.DefD) (tf : List He.Defn) (ex : PySem.W.Frag → Bool) (es : List EsD) (h : Heap) (K : PySem.W.Frag) : Prop where
  d : He.SaysD fa fn K
  more : ex K = true
  ini : ∀ e ∈ es, fnE K e = valE e
  hd : ∀ p ∈ tf, PySem.W.codeHdIn K (He.cT K p).1 (He.cT K p).2 = true
  out : ∀ p ∈ tf, K.lookup (He.cT K p).2 = none
  empty : ∀ p ∈ tf, h.get? (He.cT K p).2 = some { cls := .none, data := .fields #[] }
abbrev AlY : Type := He.AlD × Bool × List FnC
def obsY (n : Nat) (fa : List He.Fa) (fn : List He.DefD) (tf : List He.Defn) (ex : PySem.W.Frag → Bool) (es : List EsD) (g : Addr → Option Obj) : AlY := (He.obsD fa fn (kY g n fa), ex (kY g n fa) && He.tabsB g tf (kY g n fa), es.map fun e => fnE (kY g n fa) e)
def valY (fn : List He.DefD) (es : List EsD) : AlY := (He.valD fn, true, es.map fun e => valE e)
theorem kY_in {n : Nat} {fa : List He.Fa} {h : Heap} : (kY h.get? n fa).In h := He.frT_in
theorem saysY_of {n : Nat} {fa : List He.Fa} {fn : List He.DefD} {tf : List He.Defn} {ex : PySem.W.Frag → Bool} {es : List EsD} {h : Heap} (e : obsY n fa fn tf ex es h.get? = valY fn es) : SaysY fa fn tf ex es h (kY h.get? n fa) := by
  have e1 : He.obsD fa fn (kY h.get? n fa) = He.valD fn := congrArg (fun z : AlY => z.1) e
  have e2 : (ex (kY h.get? n fa) && He.tabsB h.get? tf (kY h.get? n fa)) = true := congrArg (fun z : AlY => z.2.1) e
  have e3 : (es.map fun e => fnE (kY h.get? n fa) e) = es.map fun e => valE e := congrArg (fun z : AlY => z.2.2) e
  obtain ⟨h1, h2⟩ := He.ba e2
  have at_ : ∀ p ∈ tf, PySem.W.codeHdIn (kY h.get? n fa) (He.cT (kY h.get? n fa) p).1 (He.cT (kY h.get? n fa) p).2 = true ∧ ∃ o, h.get? (He.cT (kY h.get? n fa) p).2 = some o ∧ He.emptyTab o = true := fun p hp => by
    obtain ⟨h3, h4⟩ := He.ba (List.all_eq_true.mp h2 p hp)
    refine ⟨h3, ?_⟩
    cases q : h.get? (He.cT (kY h.get? n fa) p).2 with
    | none => rw [q] at h4; cases h4
    | some o => rw [q] at h4; exact ⟨o, rfl, h4⟩
  refine ⟨e1, h1, fun x hx => ?_, fun p hp => (at_ p hp).1, fun p hp => ?_, fun p hp => ?_⟩
  · obtain ⟨i, hi, rfl⟩ := List.mem_iff_getElem.mp hx
    have z : (es.map fun e => fnE (kY h.get? n fa) e)[i]? = (es.map fun e => valE e)[i]? := by rw [e3]
    rw [List.getElem?_map, List.getElem?_map, List.getElem?_eq_getElem hi] at z
    exact Option.some.inj z
  · obtain ⟨_, o, q, z⟩ := at_ p hp
    exact He.frT_none q z
  · obtain ⟨_, o, q, z⟩ := at_ p hp
    rw [q, He.emptyTab_eq z]
def hookY (n : Nat) (fa : List He.Fa) (fn : List He.DefD) (tf : List He.Defn) (ex : PySem.W.Frag → Bool) (es : List EsD) : PySem.W.Hook where
  α := AlY
  obs := fun s => obsY n fa fn tf ex es s.heap.get?
  val := fun _ => valY fn es
  says := fun _ h => ∃ K : PySem.W.Frag, K.In h ∧ SaysY fa fn tf ex es h K
  of := fun _ _ e => ⟨_, kY_in, saysY_of e⟩
  keeps := fun _ _ _ ⟨K, hK, c⟩ k => ⟨K, PySem.W.Frag.In.keeps hK k, ⟨c.d, c.more, c.ini, c.hd, c.out, fun p hp => k _ _ (c.empty p hp)⟩⟩
theorem obsY_eq {n : Nat} {fa : List He.Fa} {fn : List He.DefD} {tf : List He.Defn} {ex : PySem.W.Frag → Bool} {es : List EsD} {g : Addr → Option Obj} {s : Shared} (h : ∀ a, g a = s.heap.get? a) : obsY n fa fn tf ex es g = (hookY n fa fn tf ex es).obs s := by
  have e : g = s.heap.get? := funext h
  rw [e] <;> rfl
/-- the fields of an error's class that no attribute of the class hides -/
def nfB (K : PySem.W.Frag) (x : Str) (fs : List Str) : Bool := fs.all fun f => He.eqO (PySem.W.findIn K (.ref (cA K x)) f) (some none)
theorem nfB_ok {K : PySem.W.Frag} {x f : Str} {fs : List Str} (h : nfB K x fs = true) (hf : f ∈ fs) : PySem.W.findIn K (.ref (cA K x)) f = some none := He.eqO_ok (List.all_eq_true.mp h f hf)
/-- whether an error of the class x is one of these -/
def anyB (K : PySem.W.Frag) (x : Str) (xs : List Str) (b : Bool) : Bool := decide (PySem.W.exmAny K (.ref (cA K x)) (xs.map fun y => .ref (cA K y)) = some b)
theorem anyB_ok {K : PySem.W.Frag} {x : Str} {xs : List Str} {b : Bool} (h : anyB K x xs b = true) : PySem.W.exmAny K (.ref (cA K x)) (xs.map fun y => .ref (cA K y)) = some b := of_decide_eq_true h
/-- a def that takes one value, its words as a datum of the head -/
abbrev dOf (x : Str) (st : Stmt) : He.DefD := ⟨(x, none), x, x, defArgs st, defBody st, defScope st, [], []⟩

abbrev mOf (C m q : Str) (st : Stmt) (kwd : List (Str × He.Dv)) : He.DefD := ⟨(C, some m), m, q, defArgs st, defBody st, defScope st, [], kwd⟩
/-- the keyword-only default x of the def at f, if it is an object -/
def kwA (f : Str × Option Str) (x : Str) (K : PySem.W.Frag) : Addr := match K.lookup (He.fAd K f) with
  | some ⟨_, _, .func fd, _⟩ => (match fd.kwdefaults with
    | .ref D => (match PySem.W.nsIn K D x with
      | some (some (.ref b)) => b
      | _ => 0)
    | _ => 0)
  | _ => 0
/-- the object at a is an empty tuple -/
def etB (K : PySem.W.Frag) (a : Addr) : Bool := match K.lookup a with
  | some o => (match o.cls, o.data with
    | .type t, .seq its _ => decide (t = "tuple") && decide (its.size = 0)
    | _, _ => false)
  | none => false
/-- C.f is the number i -/
def conB (K : PySem.W.Frag) (C : Addr) (f : Str) (i : Int) : Bool := PySem.W.readsIn K C (.type "type") && (He.eqO (PySem.W.specialIn K (.ref C) "__getattribute__") (some (some (.builtin "type.__getattribute__"))) && (match PySem.W.findCls K (.ref C) (.type "type") f with
  | some (.val (.int j _)) => decide (j = i)
  | _ => false))
def ownB (K : PySem.W.Frag) (C : Addr) : Bool := He.eqO (PySem.W.findIn K (.ref C) "__ne__") (some (some (.builtin "object.__ne__"))) && (He.eqO (PySem.W.findIn K (.ref C) "__eq__") (some (some (.ref (He.ma K C "__eq__")))) && (PySem.W.isFn K (.ref (He.ma K C "__eq__")) && decide (PySem.W.mroIn K C (.type "object") = some true)))
def insB (K : PySem.W.Frag) (C : Addr) : Bool := He.eqO (PySem.W.findIn K (.ref C) "__class__") (some (some (.builtin "object.__class__"))) && (He.eqO (PySem.W.specialIn K (.builtin "object.__class__") "__get__") (some (some (.builtin "getset_descriptor.__get__"))) && (decide (PySem.W.takesIn K (.builtin "object.__class__") = some true) &&
  (decide (PySem.W.mroIn K C (.type "object") = some true) && decide (PySem.W.kitOne K (.ref C) (.ref C) = some true))))
/-- the class at C has the method nm of its own -/
def ownFB (K : PySem.W.Frag) (C : Addr) (nm : Str) : Bool := He.eqO (PySem.W.findIn K (.ref C) nm) (some (some (.ref (He.ma K C nm)))) && PySem.W.isFn K (.ref (He.ma K C nm))
/-- nothing of the built-in kind t is of the class at C -/
def kindB (K : PySem.W.Frag) (C : Addr) (t : String) : Bool := decide (PySem.W.kitOne K (.type t) (.ref C) = some false) && decide (PySem.W.subIn K (.type t) (.ref C) = some false)
/-- the class at C has + and * of the class at D, none reflected -/
def opB (K : PySem.W.Frag) (D C : Addr) : Bool := PySem.W.selfFirst K C && (He.eqO (PySem.W.findIn K (.ref C) "__radd__") (some none) && (He.eqO (PySem.W.findIn K (.ref C) "__rmul__") (some none) && (He.eqO (PySem.W.findIn K (.ref C) "__add__") (some (some (.ref (He.ma K D "__add__")))) && (PySem.W.isFn K (.ref (He.ma K D "__add__")) &&
  (He.eqO (PySem.W.findIn K (.ref C) "__mul__") (some (some (.ref (He.ma K D "__mul__")))) && (PySem.W.isFn K (.ref (He.ma K D "__mul__")) && decide (PySem.W.subIn K (.type "int") (.ref C) = some false)))))))
/-- none of the classes is above another one -/
def sibB (K : PySem.W.Frag) (l : List Addr) : Bool := l.all fun C => l.all fun D => decide (C = D) || decide (PySem.W.subIn K (.ref D) (.ref C) = some false)
/-- the numbers' own * -/
def intB (K : PySem.W.Frag) : Bool := (PySem.W.findIn K (.type "int") "__mul__").isSome && (PySem.W.findIn K (.type "int") "__rmul__").isSome
section
open PySem.W PySem.Calls PyProof.Rows HandSHeadRun
/-- the top's run, twice: what it leaves in order; what is looked at -/
def Run1 (r : OpenRow) (q : Program) (M : Nat) (loose : List PySem.Str) (w : World) : Prop :=
  ∀ os : OsState, (endF (stepQ (denQ tabQ) r.prog w) M r.prog w os).map (fun s => (looksF r.prog (boot_heap w.params) s.abs, seenQ q loose (importedModules r.prog.main.body) (fun s => xlAt q [] s && recOk r.toRowW.records s) s.abs)) = some (true, openGood q loose)
def Run2 (r : OpenRow) (H : Hook) (ob : SharedT → H.α) (M : Nat) (w : World) : Prop :=
  ∀ os : OsState, (endF (stepQ (denQ tabQ) r.prog w) M r.prog w os).map ob = some (H.val w)
def Run3 {α : Type} (r : OpenRow) (ob : SharedT → α) (v : α) (M : Nat) (w : World) : Prop :=
  ∀ os : OsState, (endF (stepQ (denQ tabQ) r.prog w) M r.prog w os).map ob = some v
theorem run2_of {α β : Type} {r : OpenRow} {ob : SharedT → α × β} {v : α × β} {M : Nat} {w : World} (h1 : Run3 r (fun s => (ob s).1) v.1 M w) (h2 : Run3 r (fun s => (ob s).2) v.2 M w) : Run3 r ob v M w := fun os => by
  have a1 := h1 os
  have a2 := h2 os
  cases e : endF (stepQ (denQ tabQ) r.prog w) M r.prog w os with
  | none => rw [e] at a1; cases a1
  | some s =>
    rw [e] at a1 a2
    have b1 := Option.some.inj a1
    have b2 := Option.some.inj a2
    exact congrArg some (Prod.ext b1 b2)
theorem run_join {α β γ δ : Type} {E : Option α} {A : α → β} {B : α → γ} {C : α → δ} {a : β} {b : γ} {c : δ} (h1 : E.map (fun s => (A s, B s)) = some (a, b)) (h2 : E.map C = some c) : E.map (fun s => (A s, B s, C s)) = some (a, b, c) := by
  cases E with
  | none => cases h2
  | some s =>
    have e1 := Option.some.inj h1
    have e2 := Option.some.inj h2
    have ea : A s = a := congrArg Prod.fst e1
    have eb : B s = b := congrArg Prod.snd e1
    show some (A s, B s, C s) = _
    rw [ea, eb, e2]
theorem runEq_of {r : OpenRow} {q : Program} {H : Hook} {ob : SharedT → H.α} {M : Nat} {loose : List PySem.Str} {w : World} (h1 : Run1 r q M loose w) (h2 : Run2 r H ob M w) : RunEq r q H ob M loose w := fun os => run_join (h1 os) (h2 os)
theorem run3_two {α β γ : Type} (f : α → β → γ) {r : OpenRow} {o1 : SharedT → α} {o2 : SharedT → β} {v1 : α} {v2 : β} {M : Nat} {w : World} (h1 : Run3 r o1 v1 M w) (h2 : Run3 r o2 v2 M w) : Run3 r (fun s => f (o1 s) (o2 s)) (f v1 v2) M w := fun os => by
  have a1 := h1 os
  have a2 := h2 os
  cases e : endF (stepQ (denQ tabQ) r.prog w) M r.prog w os with
  | none => rw [e] at a1; cases a1
  | some s =>
    rw [e] at a1 a2
    have b1 := Option.some.inj a1
    have b2 := Option.some.inj a2
    show some (f (o1 s) (o2 s)) = _
    rw [b1, b2]
theorem run3_of {α : Type} {r : OpenRow} {o o' : SharedT → α} {v v' : α} {M : Nat} {w : World} (h : Run3 r o' v' M w) (e : ∀ s, o s = o' s) (hv : v' = v) : Run3 r o v M w := fun os => by
  rw [← hv, show o = o' from funext e]
  exact h os
/-- the facts and the defs (in two lists), looked at one by one -/
theorem run2_big {r : OpenRow} {n : Nat} {fa : List He.Fa} {f1 f2 : List He.DefD} {tf : List He.Defn} {ex : PySem.W.Frag → Bool} {es : List EsD} {M : Nat} {w : World}
    (a1 : Run3 r (fun s => fa.all fun f => f.ok (kY (getT s) n fa)) true M w) (a2 : Run3 r (fun s => f1.all fun d => d.ok (kY (getT s) n fa)) true M w) (a3 : Run3 r (fun s => f2.all fun d => d.ok (kY (getT s) n fa)) true M w)
    (b1 : Run3 r (fun s => f1.map fun d => He.fnW (kY (getT s) n fa) d.at_) (f1.map He.DefD.val) M w) (b2 : Run3 r (fun s => f2.map fun d => He.fnW (kY (getT s) n fa) d.at_) (f2.map He.DefD.val) M w)
    (c : Run3 r (fun s => (obsY n fa (f1 ++ f2) tf ex es (getT s)).2) (true, es.map fun e => valE e) M w) : Run2 r (hookY n fa (f1 ++ f2) tf ex es) (fun s => obsY n fa (f1 ++ f2) tf ex es (getT s)) M w := by
  have a := run3_two (fun x y => x && y) a1 (run3_two (fun x y => x && y) a2 a3)
  have b := run3_two (fun x y => x ++ y) b1 b2
  have ab := run3_two (fun x y => (x, y)) a b
  refine run3_of (run3_two (fun x y => (x, y)) ab c) (fun s => ?_) ?_
  · show ((fa.all _ && (f1 ++ f2).all _, (f1 ++ f2).map _), _) = _
    rw [List.all_append, List.map_append]
    rfl
  · show ((true && (true && true), f1.map He.DefD.val ++ f2.map He.DefD.val), _) = ((true, (f1 ++ f2).map He.DefD.val), true, es.map fun e => valE e)
    rw [List.map_append]
    rfl
end
end Z

namespace Law
open PySem L2 Z
def topS (i : Nat) : Stmt := PySem.Challenge.pw_boughtoll_k14_texts_refused.main.body.getD i (.Pass ⟨0, 0, 0, 0⟩)
abbrev FnP (K : PySem.W.Frag) (x : Str) (st : Stmt) (f : Addr) (fd : FuncData) : Prop := FunD K x x (defArgs st) (defBody st) (defScope st) [] [] f fd
def forBody : Stmt → List Stmt
  | .For _ _ b _ _ => b
  | _ => []
def stAt (b : List Stmt) (i : Nat) : Stmt := b.getD i (.Pass ⟨0, 0, 0, 0⟩)
def whileBody : Stmt → List Stmt
  | .While _ b _ _ => b
  | _ => []
def flat4 : V → Bool
  | .non => true | .bl _ => true | .int _ => true | .str _ => true | _ => false

/-! the head of the law's row: the program's top is run -/
def hdF : List He.DefD := [dOf "arity" (topS 33), dOf "is_whole" (topS 54), dOf "is_room" (topS 55), dOf "is_letter" (topS 56), dOf "is_rule" (topS 57), dOf "is_move" (topS 58), dOf "first_ways" (topS 59), dOf "check_rules" (topS 60), dOf "check_moves" (topS 61), dOf "check_joined" (topS 62), dOf "number_in" (topS 66), dOf "numbers_in" (topS 67), dOf "read_rooms" (topS 68), dOf "read_rule" (topS 69), dOf "read_move" (topS 70), dOf "_law_feed" (topS 74), dOf "_law_draw" (topS 75), dOf "_law_any" (topS 76), dOf "_law_arity" (topS 78), dOf "_law_letters" (topS 79), dOf "_law_rule" (topS 80), dOf "_law_spec" (topS 81), dOf "_law_line" (topS 82), dOf "_law_lines" (topS 83), dOf "_law_odd_line" (topS 84), dOf "read_lines" (topS 71), dOf "parse_chooser" (topS 72), dOf "_law_refused" (topS 77), dOf "law" (topS 85), mOf "Chooser" "__init__" "Chooser.__init__" (inClass (topS 63) 3) [("moves", .adr (kwA ("Chooser", some "__init__") "moves"))]]
def hdA : List He.Fa := [.glo "arity", .glo "is_whole", .glo "is_room", .glo "is_letter", .glo "is_rule", .glo "is_move", .glo "first_ways", .glo "check_rules", .glo "check_moves", .glo "check_joined", .glo "number_in", .glo "numbers_in", .glo "read_rooms", .glo "read_rule", .glo "read_move", .glo "_law_feed", .glo "_law_draw", .glo "_law_any", .glo "_law_arity", .glo "_law_letters", .glo "_law_rule", .glo "_law_spec", .glo "_law_line", .glo "_law_lines", .glo "_law_odd_line", .glo "read_lines", .glo "parse_chooser", .glo "_law_refused", .glo "law", .free "len", .free "int", .free "range", .free "enumerate", .free "sorted", .free "isinstance", .free "bool", .free "str", .free "list", .free "tuple", .free "all", .free "zip", .free "super", .free "set", .str "LEAVES" "abcdefgh", .str "SINGLES" "ijklmnop", .str "LETTERS" "abcdefghijklmnopqrstuvwxyz", .int "MOST_PRICE" 99, .int "MOST_DIGITS" 3, .glo "InvalidTree", .glo "InvalidRule", .glo "InvalidMove", .glo "UnknownLetter", .glo "InvalidRow", .glo "InvalidRooms", .glo "InvalidNumber", .glo "TooMany", .glo "TooWide", .glo "TooLong", .glo "CapacityExceeded", .glo "InvalidName", .glo "DuplicateName", .glo "WrongKind", .glo "InUse", .glo "UnknownName", .glo "InvalidContext", .glo "NoLeaf", .glo "NothingLeft", .glo "Unjoined", .glo "UnlikeLetters", .glo "Unlike", .glo "Boundless", .glo "InvalidCommand", .glo "ParseError", .glo "Chooser", .cls "Chooser", .mkr "Chooser", .noat "Chooser" "ways", .noat "Chooser" "many_rooms", .noat "Chooser" "rule_row", .noat "Chooser" "move_row", .noat "Chooser" "letter_row"]
def hdX : List (PySem.W.Frag → Bool) := [fun K => exiB PySem.Challenge.pw_boughtoll_k14_texts_refused K "InvalidRule", fun K => nfB K "InvalidRule" ["index", "tag"], fun K => L2.xfB K (cA K "InvalidRule"), fun K => anyB K "InvalidRule" ["InvalidTree", "InvalidRule", "InvalidMove", "UnknownLetter", "InvalidRow"] true, fun K => exiB PySem.Challenge.pw_boughtoll_k14_texts_refused K "InvalidMove", fun K => nfB K "InvalidMove" ["index", "tag"], fun K => L2.xfB K (cA K "InvalidMove"), fun K => anyB K "InvalidMove" ["InvalidTree", "InvalidRule", "InvalidMove", "UnknownLetter", "InvalidRow"] true, fun K => exiB PySem.Challenge.pw_boughtoll_k14_texts_refused K "Unjoined", fun K => nfB K "Unjoined" ["room", "tag"], fun K => L2.xfB K (cA K "Unjoined"), fun K => anyB K "Unjoined" ["InvalidTree", "InvalidRule", "InvalidMove", "UnknownLetter", "InvalidRow"] false, fun K => anyB K "Unjoined" ["InvalidRooms", "InvalidNumber"] false, fun K => anyB K "Unjoined" ["TooMany", "TooWide", "TooLong", "CapacityExceeded"] false, fun K => anyB K "Unjoined" ["InvalidName", "DuplicateName", "WrongKind", "InUse", "UnknownName"] false, fun K => anyB K "Unjoined" ["InvalidContext", "NoLeaf", "NothingLeft"] false, fun K => anyB K "Unjoined" ["Unjoined"] true, fun K => exiB PySem.Challenge.pw_boughtoll_k14_texts_refused K "NoLeaf", fun K => nfB K "NoLeaf" ["tag"], fun K => L2.xfB K (cA K "NoLeaf"), fun K => anyB K "NoLeaf" ["InvalidTree", "InvalidRule", "InvalidMove", "UnknownLetter", "InvalidRow"] false, fun K => anyB K "NoLeaf" ["InvalidRooms", "InvalidNumber"] false, fun K => anyB K "NoLeaf" ["TooMany", "TooWide", "TooLong", "CapacityExceeded"] false, fun K => anyB K "NoLeaf" ["InvalidName", "DuplicateName", "WrongKind", "InUse", "UnknownName"] false, fun K => anyB K "NoLeaf" ["InvalidContext", "NoLeaf", "NothingLeft"] true, fun K => exiB PySem.Challenge.pw_boughtoll_k14_texts_refused K "InvalidRooms", fun K => nfB K "InvalidRooms" ["given", "tag"], fun K => L2.xfB K (cA K "InvalidRooms"), fun K => anyB K "InvalidRooms" ["InvalidTree", "InvalidRule", "InvalidMove", "UnknownLetter", "InvalidRow"] false, fun K => anyB K "InvalidRooms" ["InvalidRooms", "InvalidNumber"] true, fun K => exiB PySem.Challenge.pw_boughtoll_k14_texts_refused K "TooMany", fun K => nfB K "TooMany" ["limit", "tag"], fun K => L2.xfB K (cA K "TooMany"), fun K => anyB K "TooMany" ["InvalidTree", "InvalidRule", "InvalidMove", "UnknownLetter", "InvalidRow"] false, fun K => anyB K "TooMany" ["InvalidRooms", "InvalidNumber"] false, fun K => anyB K "TooMany" ["TooMany", "TooWide", "TooLong", "CapacityExceeded"] true, fun K => exiB PySem.Challenge.pw_boughtoll_k14_texts_refused K "ParseError", fun K => nfB K "ParseError" ["line", "tag"], fun K => L2.xfB K (cA K "ParseError"), fun K => anyB K "ParseError" ["InvalidTree", "InvalidRule", "InvalidMove", "UnknownLetter", "InvalidRow"] false, fun K => anyB K "ParseError" ["InvalidRooms", "InvalidNumber"] false, fun K => anyB K "ParseError" ["TooMany", "TooWide", "TooLong", "CapacityExceeded"] false, fun K => anyB K "ParseError" ["InvalidName", "DuplicateName", "WrongKind", "InUse", "UnknownName"] false, fun K => anyB K "ParseError" ["InvalidContext", "NoLeaf", "NothingLeft"] false, fun K => anyB K "ParseError" ["Unjoined"] false, fun K => anyB K "ParseError" ["UnlikeLetters"] false, fun K => anyB K "ParseError" ["Unlike"] false, fun K => anyB K "ParseError" ["Boundless"] false, fun K => anyB K "ParseError" ["InvalidCommand"] false, fun K => anyB K "ParseError" ["ParseError"] true, fun K => conB K (cA K "Chooser") "MAX_ROOMS" 4, fun K => conB K (cA K "Chooser") "MAX_RULES" 24, fun K => conB K (cA K "Chooser") "MAX_MOVES" 12]
def hdE (K : PySem.W.Frag) : Bool := hdX.all fun f => f K
def hdI : List EsD := [.ini "InvalidRule" (inClass (topS 7) 0), .ini "InvalidMove" (inClass (topS 8) 0), .ini "Unjoined" (inClass (topS 9) 0), .ini "NoLeaf" (inClass (topS 10) 0), .ini "InvalidRooms" (inClass (topS 6) 0), .ini "TooMany" (inClass (topS 11) 0), .ini "ParseError" (inClass (topS 26) 0)]
def hdT : List He.Defn := [("law", none)]
def hdL0 : List Str := ["_wall", "TollError", "Missing", "InvalidTree", "InvalidContext", "InvalidRooms", "InvalidRule", "InvalidMove", "Unjoined", "NoLeaf", "TooMany", "UnknownLetter", "UnlikeLetters", "TooWide", "TooLong", "Unlike", "Boundless", "InvalidNumber", "InvalidRow", "InvalidName", "DuplicateName", "CapacityExceeded", "WrongKind", "InUse", "InvalidCommand", "ParseError", "UnknownName", "NothingLeft", "LEAVES", "SINGLES"]
def hdL1 : List Str := ["LETTERS", "arity", "first_fault", "check_tree", "MAX_STATES", "check_letters", "choices", "folded", "explored", "Table", "made_table", "TablePair", "MAX_TIMES", "check_alike", "Pricer", "Total", "TableTimes", "Multiple", "MOST_PRICE", "is_whole", "is_room", "is_letter", "is_rule", "is_move", "first_ways", "check_rules", "check_moves", "check_joined", "Chooser", "MOST_DIGITS"]
def hdL2 : List Str := ["number_in", "numbers_in", "read_rooms", "read_rule", "read_move", "read_lines", "parse_chooser", "_law_feed", "_law_draw", "_law_any", "_law_refused", "_law_arity", "_law_letters", "_law_rule", "_law_spec", "_law_line", "_law_lines", "_law_odd_line"]
def hdL : List Str := hdL0 ++ hdL1 ++ hdL2
abbrev hdR : PySem.W.OpenRow := PySem.W.OpenLaw.row PySem.Challenge.rw_boughtoll_k14_texts_refused
abbrev hdK : PySem.W.Hook := hookY 4 hdA hdF hdT hdE hdI
def hdO (s : PySem.W.SharedT) : AlY := obsY 4 hdA hdF hdT hdE hdI (HandSHeadRun.getT s)
theorem hdO_eq (s : PySem.W.SharedT) : hdO s = hdK.obs s.abs := obsY_eq (HandSHeadRun.getT_eq s)
theorem hd_run1 (w : World) : Run1 hdR (PySem.W.view hdR.prog [85]) 16000 hdL w := by
  intro os
  kernel_rfl
theorem hd_run2 (w : World) : Run2 hdR hdK hdO 16000 w := by
  intro os
  kernel_rfl
theorem hd_run (w : World) : HandSHeadRun.RunEq hdR (PySem.W.view hdR.prog [85]) hdK hdO 16000 hdL w := runEq_of (hd_run1 w) (hd_run2 w)

end Law
namespace Z
open PySem L2

/-! ### the weakest readings of each kind of syntax -/
section
variable (X : Cx)
@[irreducible] def zE (e : Expr) : TE := fun σ H Q => ∀ ps s, Inv X ps σ H s → wpAny (model X.prog X.w) X.A (eval e X.env) (EP X ps σ Q) X.xe s
@[irreducible] def zT (e : Expr) : TT := fun σ H Q => ∀ ps s, Inv X ps σ H s → wpAny (model X.prog X.w) X.A (isTrue e X.env (eval e X.env)) (TP X ps σ Q) X.xe s
@[irreducible] def zW (e : Expr) : TT := fun σ H Q => ∀ wh ps s, Inv X ps σ H s → wpAny (model X.prog X.w) X.A (isTrue e X.env wh) (TP X ps σ Q) X.xe s
@[irreducible] def zA (es : List Expr) : TA := fun σ H Q => ∀ pos ps s, Inv X ps σ H s → wpAny (model X.prog X.w) X.A (spliced (backTo pos (starEach es X.env))) (AP X ps σ Q) X.xe s
@[irreducible] def zS (st : Stmt) : (St → Hp → Prop) → VK → (St → Hp → Prop) → (St → Hp → Prop) → St → Hp → Prop := fun nx rt bk ct σ H => ∀ ps s, Inv X ps σ H s → wpAny (model X.prog X.w) X.A (exec st X.env) (SP X ps ⟨nx, rt, bk, ct⟩) X.xe s
@[irreducible] def zB (sts : List Stmt) : (St → Hp → Prop) → VK → (St → Hp → Prop) → (St → Hp → Prop) → St → Hp → Prop := fun nx rt bk ct σ H => ∀ ps s, Inv X ps σ H s → wpAny (model X.prog X.w) X.A (execs sts X.env) (SP X ps ⟨nx, rt, bk, ct⟩) X.xe s
def zSt (st : Stmt) : TS := fun D σ H => zS X st D.nx D.rt D.bk D.ct σ H
def zBt (sts : List Stmt) : TS := fun D σ H => zB X sts D.nx D.rt D.bk D.ct σ H
@[irreducible] def zG (tg : Expr) : TG := fun v σ H Q => ∀ ps s u, Inv X ps σ H s → RelV v u → wpAny (model X.prog X.w) X.A (assign tg X.env u) (fun _ s' => ∃ σ' H', Inv X ps σ' H' s' ∧ Q σ' H') X.xe s
@[irreducible] def zI (tg it : Expr) : TI := fun σ H R => ∀ ps s, Inv X ps σ H s → wpAny (model X.prog X.w) X.A (eval it X.env) (fun v s1 => wpAny (model X.prog X.w) X.A (pyIter v) (PIE X ps σ tg R) X.xe s1) X.xe s
@[irreducible] def zP (e : Option Expr) : TO := fun σ H Q => ∀ ps s, Inv X ps σ H s → wpAny (model X.prog X.w) X.A (evalPart e X.env) (fun u s' => ∃ o H', Inv X ps σ H' s' ∧ IsPart u o ∧ Q o H') X.xe s
@[irreducible] def zTs (ifs : List Expr) : TT := fun σ H Q => ∀ ps s, Inv X ps σ H s → wpAny (model X.prog X.w) X.A (forIn ifs true fun c r => if r = true then do let ok ← isTrue c X.env (eval c X.env); pure (ForInStep.yield ok) else pure (ForInStep.yield r)) (TP X ps σ Q) X.xe s
/-- values -/
@[irreducible] def zO (f : Value → Value → Sem Value) : R2 := fun x y H Q => ∀ ps s σ v u, Inv X ps σ H s → RelV x v → RelV y u → wpAny (model X.prog X.w) X.A (f v u) (EP X ps σ Q) X.xe s
@[irreducible] def zU (f : Value → Sem Value) : V → Hp → VK → Prop := fun x H Q => ∀ ps s σ v, Inv X ps σ H s → RelV x v → wpAny (model X.prog X.w) X.A (f v) (EP X ps σ Q) X.xe s
@[irreducible] def zC (f : Value) : List V → Hp → VK → Prop := fun xs H Q => ∀ ps s σ us, Inv X ps σ H s → Vals xs us → wpAny (model X.prog X.w) X.A (call f us) (EP X ps σ Q) X.xe s
@[irreducible] def zX : R2 := fun x y H Q => ∀ value slice ps s σ v u, Inv X ps σ H s → RelV x v → RelV y u → subscripted slice false v u = operate [v, u] (getItem v u) → wpAny (model X.prog X.w) X.A (PyProof.Rows.subscriptTail value slice v u) (EP X ps σ Q) X.xe s
@[irreducible] def zSet : TSet := fun o i v H Q => ∀ ps s σ ov iv u, Inv X ps σ H s → RelV o ov → RelV i iv → RelV v u → wpAny (model X.prog X.w) X.A (setItem ov iv u) (fun _ s' => ∃ H', Inv X ps σ H' s' ∧ Q H') X.xe s
@[irreducible] def zSl : V → Option Int → Option Int → Hp → VK → Prop := fun x lo hi H Q => ∀ ps s σ v vl vu sl, Inv X ps σ H s → RelV x v → s.heap.IsSliceOf sl vl vu .none → IsPart vl lo → IsPart vu hi →
  ∃ T id, typeLookup (.type T) "__getitem__" = pure (some (.builtin id)) ∧ s.TypeIs v T ∧ wpAny (model X.prog X.w) X.A (getItem v (.ref sl)) (EP X ps σ Q) X.xe s
end
section
variable {X : Cx}
theorem zE_ok (e : Expr) : PE X e (zE X e) := ⟨fun ps s σ H Q I h => by unfold zE at h; exact h ps s I⟩
theorem zE_of {e : Expr} {t : TE} (p : PE X e t) {σ : St} {H : Hp} {Q : VK} (h : t σ H Q) : zE X e σ H Q := by unfold zE; exact fun ps s I => p.run ps s σ H Q I h
theorem zT_ok (e : Expr) : PT X e (zT X e) := ⟨fun ps s σ H Q I h => by unfold zT at h; exact h ps s I⟩
theorem zT_of {e : Expr} {t : TT} (p : PT X e t) {σ : St} {H : Hp} {Q : Bool → Hp → Prop} (h : t σ H Q) : zT X e σ H Q := by unfold zT; exact fun ps s I => p.run ps s σ H Q I h
theorem zW_ok (e : Expr) : PW X e (zW X e) := ⟨fun wh ps s σ H Q I h => by unfold zW at h; exact h wh ps s I⟩
theorem zW_of {e : Expr} {t : TT} (p : PW X e t) {σ : St} {H : Hp} {Q : Bool → Hp → Prop} (h : t σ H Q) : zW X e σ H Q := by unfold zW; exact fun wh ps s I => p.run wh ps s σ H Q I h
theorem zA_ok (e : List Expr) : PA X e (zA X e) := ⟨fun pos ps s σ H Q I h => by unfold zA at h; exact h pos ps s I⟩
theorem zA_of {e : List Expr} {t : TA} (p : PA X e t) {σ : St} {H : Hp} {Q : List V → Hp → Prop} (h : t σ H Q) : zA X e σ H Q := by unfold zA; exact fun pos ps s I => p.run pos ps s σ H Q I h
theorem zS_ok (e : Stmt) : PS X e (zSt X e) := ⟨fun ps s σ H D I h => by unfold zSt zS at h; exact h ps s I⟩
theorem zS_of {e : Stmt} {t : TS} (p : PS X e t) {σ : St} {H : Hp} {nx bk ct : St → Hp → Prop} {rt : VK} (h : t ⟨nx, rt, bk, ct⟩ σ H) : zS X e nx rt bk ct σ H := by unfold zS; exact fun ps s I => p.run ps s σ H _ I h
theorem zB_ok (e : List Stmt) : PSs X e (zBt X e) := ⟨fun ps s σ H D I h => by unfold zBt zB at h; exact h ps s I⟩
theorem zB_of {e : List Stmt} {t : TS} (p : PSs X e t) {σ : St} {H : Hp} {nx bk ct : St → Hp → Prop} {rt : VK} (h : t ⟨nx, rt, bk, ct⟩ σ H) : zB X e nx rt bk ct σ H := by unfold zB; exact fun ps s I => p.run ps s σ H _ I h
theorem zG_ok (e : Expr) : PG X e (zG X e) := ⟨fun ps s σ H v u Q I r h => by unfold zG at h; exact h ps s u I r⟩
theorem zG_of {e : Expr} {t : TG} (p : PG X e t) {v : V} {σ : St} {H : Hp} {Q : St → Hp → Prop} (h : t v σ H Q) : zG X e v σ H Q := by unfold zG; exact fun ps s u I r => p.run ps s σ H v u Q I r h
theorem zI_ok (tg e : Expr) : PI X tg e (zI X tg e) := ⟨fun ps s σ H R I h => by unfold zI at h; exact h ps s I⟩
theorem zI_of {tg e : Expr} {t : TI} (p : PI X tg e t) {σ : St} {H : Hp} {R : It → Hp → Prop} (h : t σ H R) : zI X tg e σ H R := by unfold zI; exact fun ps s I => p.run ps s σ H R I h
theorem zP_ok (e : Option Expr) : PO X e (zP X e) := ⟨fun ps s σ H Q I h => by unfold zP at h; exact h ps s I⟩
theorem zP_of {e : Option Expr} {t : TO} (p : PO X e t) {σ : St} {H : Hp} {Q : Option Int → Hp → Prop} (h : t σ H Q) : zP X e σ H Q := by unfold zP; exact fun ps s I => p.run ps s σ H Q I h
theorem zTs_ok (e : List Expr) : PTs X e (zTs X e) := ⟨fun ps s σ H Q I h => by unfold zTs at h; exact h ps s I⟩
theorem zTs_of {e : List Expr} {t : TT} (p : PTs X e t) {σ : St} {H : Hp} {Q : Bool → Hp → Prop} (h : t σ H Q) : zTs X e σ H Q := by unfold zTs; exact fun ps s I => p.run ps s σ H Q I h
theorem zO_ok (f : Value → Value → Sem Value) : OpR X f (zO X f) := fun ps s σ H x y v u Q I rx ry h => by unfold zO at h; exact h ps s σ v u I rx ry
theorem zO_of {f : Value → Value → Sem Value} {r : R2} (p : OpR X f r) {x y : V} {H : Hp} {Q : VK} (h : r x y H Q) : zO X f x y H Q := by unfold zO; exact fun ps s σ v u I rx ry => p ps s σ H x y v u Q I rx ry h
theorem zU_ok (f : Value → Sem Value) : UnR X f (zU X f) := fun ps s σ H x v Q I rx h => by unfold zU at h; exact h ps s σ v I rx
theorem zU_of {f : Value → Sem Value} {r : V → Hp → VK → Prop} (p : UnR X f r) {x : V} {H : Hp} {Q : VK} (h : r x H Q) : zU X f x H Q := by unfold zU; exact fun ps s σ v I rx => p ps s σ H x v Q I rx h
theorem zC_ok (f : Value) : CallR X f (zC X f) := fun ps s σ H xs us Q I rx h => by unfold zC at h; exact h ps s σ us I rx
theorem zC_of {f : Value} {r : List V → Hp → VK → Prop} (p : CallR X f r) {xs : List V} {H : Hp} {Q : VK} (h : r xs H Q) : zC X f xs H Q := by unfold zC; exact fun ps s σ us I rx => p ps s σ H xs us Q I rx h
theorem zX_ok : IxR X (zX X) := fun value slice ps s σ H x y v u Q I rx ry h hs => by unfold zX at h; exact h value slice ps s σ v u I rx ry hs
theorem zX_of {r : R2} (p : IxR X r) {x y : V} {H : Hp} {Q : VK} (h : r x y H Q) : zX X x y H Q := by unfold zX; exact fun value slice ps s σ v u I rx ry hs => p value slice ps s σ H x y v u Q I rx ry h hs
theorem zSet_ok : PSet X (zSet X) := fun ps s σ H o i v ov iv u Q I ro ri rv h => by unfold zSet at h; exact h ps s σ ov iv u I ro ri rv
theorem zSet_of {t : TSet} (p : PSet X t) {o i v : V} {H : Hp} {Q : Hp → Prop} (h : t o i v H Q) : zSet X o i v H Q := by unfold zSet; exact fun ps s σ ov iv u I ro ri rv => p ps s σ H o i v ov iv u Q I ro ri rv h
theorem zSl_ok : SlR X (zSl X) := fun ps s σ H x v vl vu lo hi sl Q I rx hs pl pu h => by unfold zSl at h; exact h ps s σ v vl vu sl I rx hs pl pu
theorem zSl_of {r : V → Option Int → Option Int → Hp → VK → Prop} (p : SlR X r) {x : V} {lo hi : Option Int} {H : Hp} {Q : VK} (h : r x lo hi H Q) : zSl X x lo hi H Q := by unfold zSl; exact fun ps s σ v vl vu sl I rx hs pl pu => p ps s σ H x v vl vu lo hi sl Q I rx hs pl pu h
end

section
variable {X : Cx} {σ : St} {H : Hp}
theorem zE_mono {e : Expr} {Q Q' : VK} (h : zE X e σ H Q) (k : ∀ v H', Q v H' → Q' v H') : zE X e σ H Q' := by
  unfold zE at h ⊢
  exact fun ps s I => thn (h ps s I) fun u s1 ⟨v, H1, I1, r1, q1⟩ => ⟨v, H1, I1, r1, k v H1 q1⟩
theorem zO_mono {f : Value → Value → Sem Value} {x y : V} {Q Q' : VK} (h : zO X f x y H Q) (k : ∀ v H', Q v H' → Q' v H') : zO X f x y H Q' := by
  unfold zO at h ⊢
  exact fun ps s σ v u I rx ry => thn (h ps s σ v u I rx ry) fun u s1 ⟨v, H1, I1, r1, q1⟩ => ⟨v, H1, I1, r1, k v H1 q1⟩
theorem zA_mono {es : List Expr} {Q Q' : List V → Hp → Prop} (h : zA X es σ H Q) (k : ∀ v H', Q v H' → Q' v H') : zA X es σ H Q' := by
  unfold zA at h ⊢
  exact fun pos ps s I => thn (h pos ps s I) fun u s1 ⟨v, H1, I1, r1, q1⟩ => ⟨v, H1, I1, r1, k v H1 q1⟩
theorem zT_mono {e : Expr} {Q Q' : Bool → Hp → Prop} (h : zT X e σ H Q) (k : ∀ v H', Q v H' → Q' v H') : zT X e σ H Q' := by
  unfold zT at h ⊢
  exact fun ps s I => thn (h ps s I) fun u s1 ⟨H1, I1, q1⟩ => ⟨H1, I1, k _ H1 q1⟩
end
/-! ### rules: statements -/
/-- the i-th name is x, to be seen -/
structure Nm (X : Cx) (x : Str) (i : Nat) : Prop where
  ix : X.N[i]? = some x
  vis : Vis X.env.scope x
/-- .. and to be stored -/
structure Ns (X : Cx) (x : Str) (i : Nat) : Prop where
  nd : X.N.Nodup
  ix : X.N[i]? = some x
  loc : Loc X.env.scope x
  fn : X.fn x = true ∨ X.env.scope.names.lookup x = some .local
section
variable {X : Cx} {σ : St} {H : Hp} {nx bk ct : St → Hp → Prop} {rt : VK} {Q : VK} {QT : Bool → Hp → Prop} {QA : List V → Hp → Prop}
theorem b_nil (h : nx σ H) : zB X [] nx rt bk ct σ H := zB_of pss_nil h
theorem b_cons {st : Stmt} {rest : List Stmt} (h : zS X st (fun σ H => zB X rest nx rt bk ct σ H) rt bk ct σ H) : zB X (st :: rest) nx rt bk ct σ H := zB_of (pss_cons (zS_ok st) (zB_ok rest)) h
theorem b_one {st : Stmt} (h : zS X st nx rt bk ct σ H) : zB X [st] nx rt bk ct σ H := zB_of (pss_one (zS_ok st)) h
theorem s_pass {pos : Pos} (h : nx σ H) : zS X (.Pass pos) nx rt bk ct σ H := zS_of ps_pass h
theorem s_break {pos : Pos} (h : bk σ H) : zS X (.Break pos) nx rt bk ct σ H := zS_of ps_break h
theorem s_continue {pos : Pos} (h : ct σ H) : zS X (.Continue pos) nx rt bk ct σ H := zS_of ps_continue h
theorem s_expr {e : Expr} {pos : Pos} (h : zE X e σ H fun _ H1 => nx σ H1) (hs : swapsWith e none pos.line X.env = pure false := by rfl) : zS X (.Expr e pos) nx rt bk ct σ H := zS_of (ps_expr (zE_ok e) hs) h
theorem s_ret {e : Expr} {pos : Pos} (h : zE X e σ H rt) : zS X (.Return (some e) pos) nx rt bk ct σ H := zS_of (ps_ret (zE_ok e)) h
theorem s_retN {pos : Pos} (h : rt .non H) : zS X (.Return none pos) nx rt bk ct σ H := zS_of ps_retN h
theorem s_if {c : Expr} {a b : List Stmt} {pos : Pos} (h : zT X c σ H fun k H1 => if k = true then zB X a nx rt bk ct σ H1 else zB X b nx rt bk ct σ H1) : zS X (.If c a b pos) nx rt bk ct σ H := zS_of (ps_if (zT_ok c) (zB_ok a) (zB_ok b)) h
theorem s_set {x : Str} {i : Nat} {e : Expr} {pos pos' : Pos} (n : Ns X x i) (h : zE X e σ H fun v H1 => nx (σ.set i (some v)) H1) (hs : swapsWith e (some (.Name x pos')) pos.line X.env = pure false := by rfl) : zS X (.Assign [.Name x pos'] e pos) nx rt bk ct σ H :=
  zS_of (ps_set n.nd n.ix n.loc (zE_ok e) hs n.fn) h
theorem s_asg {tg e : Expr} {pos : Pos} (h : zE X e σ H fun v H1 => zG X tg v σ H1 nx) (hs : swapsWithSole [tg] e pos.line X.env = pure false := by rfl) (hw : swappedStores [tg] e X.env = pure none := by rfl)
    (h1 : (assignEach [tg] X.env).map (·.2) = [assign tg X.env] := by rfl) : zS X (.Assign [tg] e pos) nx rt bk ct σ H := zS_of (ps_asg (zE_ok e) (zG_ok tg) hs hw h1) h
theorem s_par {i j : Nat} {x y : Str} {a b : Expr} {px py pt pos : Pos} {kt k2 pt2} (hc : X.calm = true) (nx' : Ns X x i) (ny : Ns X y j) (hij : i ≠ j)
    (hx : X.env.scope.names.lookup x = some .local) (hy : X.env.scope.names.lookup y = some .local)
    (h : zE X a σ H fun v H1 => zE X b σ H1 fun w H2 => nx ((σ.set i (some v)).set j (some w)) H2)
    (hs2 : starEach [a, b] X.env = (false, eval a X.env) :: starEach [b] X.env := by rfl) (hs1 : starEach [b] X.env = (false, eval b X.env) :: starEach [] X.env := by rfl)
    (hw : swappedStores [.Tuple [.Name x px, .Name y py] kt pt] (.Tuple [a, b] k2 pt2) X.env = pure (some [x, y]) := by rfl)
    (hs : swapsWithSole [.Tuple [.Name x px, .Name y py] kt pt] (.Tuple [a, b] k2 pt2) pos.line X.env = pure false := by rfl) :
    zS X (.Assign [.Tuple [.Name x px, .Name y py] kt pt] (.Tuple [a, b] k2 pt2) pos) nx rt bk ct σ H :=
  zS_of (ps_par hc nx'.nd nx'.ix ny.ix hij hx hy (pa_cons (zE_ok a) (pa_cons (zE_ok b) pa_nil hs1) hs2) hw hs) (zE_mono h fun v H1 h1 => zE_mono h1 fun w H2 h2 => ⟨_, _, rfl, h2⟩)
theorem zS_never {st : Stmt} (h : False) : zS X st nx rt bk ct σ H := h.elim
theorem zPIp {op : Operator} : PIp X op (zO X (inplaceOp op)) := fun ps s σ H x y v u Q I rx ry h => by unfold zO at h; exact h ps s σ v u I rx ry
theorem s_aug {x : Str} {i : Nat} {e : Expr} {op : Operator} {pos pos' : Pos} {v : V} (n : Ns X x i) (hv : σ[i]? = some (some v)) (h : zE X e σ H fun y H1 => zO X (inplaceOp op) v y H1 fun z H2 => nx (σ.set i (some z)) H2) : zS X (.AugAssign (.Name x pos') op e pos) nx rt bk ct σ H :=
  zS_of (ps_aug n.nd n.ix n.loc (zE_ok e) zPIp n.fn) ⟨v, hv, h⟩
/-- a statement, then the rest from a word between them -/
theorem b_cut {st : Stmt} {rest : List Stmt} (Mid : St → Hp → Prop) (h : zS X st Mid rt bk ct σ H) (k : ∀ σ' H', Mid σ' H' → zB X rest nx rt bk ct σ' H') : zB X (st :: rest) nx rt bk ct σ H := b_cons (by
  unfold zS at h ⊢
  exact fun ps s I => thn (h ps s I) fun f s1 q => by
    cases f with
    | next => obtain ⟨σ', H', I', q⟩ := q; exact ⟨σ', H', I', k _ _ q⟩
    | ret v => exact q
    | brk => exact q
    | cont => exact q)
theorem g_name {x : Str} {i : Nat} {v : V} {pos : Pos} {QG : St → Hp → Prop} (n : Ns X x i) (h : QG (σ.set i (some v)) H) : zG X (.Name x pos) v σ H QG := zG_of (pg_name n.nd n.ix n.loc n.fn) h
theorem g_sub {o i : Expr} {v : V} {pos : Pos} {QG : St → Hp → Prop} (h : zE X o σ H fun a H1 => zE X i σ H1 fun b H2 => zSet X a b v H2 fun H3 => QG σ H3)
    (hp : PG X (.Subscript o i pos) (gSub (zE X o) (zE X i) (zSet X)) := by exact pg_sub (zE_ok _) (zE_ok _) zSet_ok) : zG X (.Subscript o i pos) v σ H QG := zG_of hp h

/-! ### rules: expressions -/
theorem e_name {x : Str} {i : Nat} {pos : Pos} {v : V} (n : Nm X x i) (hv : σ[i]? = some (some v)) (h : Q v H) (hd : (x == ("__debug__" : Str)) = false := by decide) (hcd : (x == ("__classdict__" : Str)) = false := by decide) : zE X (.Name x pos) σ H Q :=
  zE_of (pe_var n.ix n.vis hd hcd) ⟨v, hv, h⟩
theorem e_glob {x : Str} {v : V} {u : Value} {pos : Pos} (hg : Gl X x) (hm : X.mg x = some u) (r : RelV v u) (h : Q v H) (hd : (x == ("__debug__" : Str)) = false := by decide) : zE X (.Name x pos) σ H Q := zE_of (pe_glob hg hm r hd) h
theorem e_int {i j pos} (h : Q (.int i) H) : zE X (.Constant (.int i) j pos) σ H Q := zE_of pe_int h
theorem e_bl {i j pos} (h : Q (.bl i) H) : zE X (.Constant (.bool i) j pos) σ H Q := zE_of pe_bl h
theorem e_non {j pos} (h : Q .non H) : zE X (.Constant .none j pos) σ H Q := zE_of pe_non h
theorem e_str {z j pos} (h : Q (.str z) H) : zE X (.Constant (.str z) j pos) σ H Q := zE_of pe_str h
theorem e_op {a b : Expr} {op : Operator} {pos : Pos} (h : zE X a σ H fun x H1 => zE X b σ H1 fun y H2 => zO X (binaryOp op) x y H2 Q) : zE X (.BinOp a op b pos) σ H Q := zE_of (pe_op (zO_ok _) (zE_ok a) (zE_ok b)) h
theorem e_un {a : Expr} {op : UnaryOp} {pos : Pos} (h : zE X a σ H fun x H1 => zU X (unaryOp op) x H1 Q) : zE X (.UnaryOp op a pos) σ H Q := zE_of (pe_un (zU_ok _) (zE_ok a)) h
theorem e_cmp {a b : Expr} {op : CmpOp} {pos : Pos} (h : zE X a σ H fun x H1 => zE X b σ H1 fun y H2 => zO X (compareOp op) x y H2 Q) (hm : behindInMarks op b = false := by rfl) : zE X (.Compare a [op] [b] pos) σ H Q := zE_of (pe_cmpR (zO_ok _) (zE_ok a) (zE_ok b) hm) h
theorem t_cmp {a b : Expr} {op : CmpOp} {pos : Pos} (h : zE X a σ H fun x H1 => zE X b σ H1 fun y H2 => zO X (compareOp op) x y H2 fun z H3 => ∃ k, z = .bl k ∧ QT k H3) (hm : behindInMarks op b = false := by rfl) : zT X (.Compare a [op] [b] pos) σ H QT := zT_of (pt_cmpR (zO_ok _) (zE_ok a) (zE_ok b) hm) h
theorem t_and {a b : Expr} {rest : List Expr} {pos : Pos} (h : zT X a σ H fun k H1 => if k = true then zW X (.BoolOp .And (b :: rest) pos) σ H1 QT else QT false H1) : zT X (.BoolOp .And (a :: b :: rest) pos) σ H QT := zT_of (pw_and (zT_ok a) (zW_ok _)).pt h
theorem t_or {a b : Expr} {rest : List Expr} {pos : Pos} (h : zT X a σ H fun k H1 => if k = true then QT true H1 else zW X (.BoolOp .Or (b :: rest) pos) σ H1 QT) : zT X (.BoolOp .Or (a :: b :: rest) pos) σ H QT := zT_of (pw_or (zT_ok a) (zW_ok _)).pt h
theorem w_and {a b : Expr} {rest : List Expr} {pos : Pos} (h : zT X a σ H fun k H1 => if k = true then zW X (.BoolOp .And (b :: rest) pos) σ H1 QT else QT false H1) : zW X (.BoolOp .And (a :: b :: rest) pos) σ H QT := zW_of (pw_and (zT_ok a) (zW_ok _)) h
theorem w_or {a b : Expr} {rest : List Expr} {pos : Pos} (h : zT X a σ H fun k H1 => if k = true then QT true H1 else zW X (.BoolOp .Or (b :: rest) pos) σ H1 QT) : zW X (.BoolOp .Or (a :: b :: rest) pos) σ H QT := zW_of (pw_or (zT_ok a) (zW_ok _)) h
theorem w_and1 {a : Expr} {pos : Pos} (h : zT X a σ H QT) : zW X (.BoolOp .And [a] pos) σ H QT := zW_of (pw_and1 (zT_ok a)) h
theorem w_or1 {a : Expr} {pos : Pos} (h : zT X a σ H QT) : zW X (.BoolOp .Or [a] pos) σ H QT := zW_of (pw_or1 (zT_ok a)) h
theorem t_not {a : Expr} {pos : Pos} (h : zT X a σ H fun k H1 => QT (!k) H1) : zT X (.UnaryOp .Not a pos) σ H QT := zT_of (pt_not (zT_ok a)) h
theorem t_val {e : Expr} (h : zE X e σ H fun z H1 => ∃ k, z = .bl k ∧ QT k H1) (he : ∀ whole, isTrue e X.env whole = (do let v ← whole; standAt e.pos; holding [v] (truthy v)) := by intro _; rfl) : zT X e σ H QT := zT_of (pt_val (zE_ok e) he) h
theorem t_truth {e : Expr} (h : zE X e σ H fun z H1 => ∃ k, TruV X.K z H1 k ∧ QT k H1) (he : ∀ whole, isTrue e X.env whole = (do let v ← whole; standAt e.pos; holding [v] (truthy v)) := by intro _; rfl) : zT X e σ H QT := zT_of (pt_truth (zE_ok e) he) h
theorem e_and {a b : Expr} {rest : List Expr} {pos : Pos} (h : zE X a σ H fun x H1 => ∃ c, x = .bl c ∧ if c = true then zE X (.BoolOp .And (b :: rest) pos) σ H1 Q else Q (.bl false) H1) : zE X (.BoolOp .And (a :: b :: rest) pos) σ H Q := zE_of (pe_and (zE_ok a) (zE_ok _)) h
theorem e_or {a b : Expr} {rest : List Expr} {pos : Pos} (h : zE X a σ H fun x H1 => ∃ c, x = .bl c ∧ if c = true then Q (.bl true) H1 else zE X (.BoolOp .Or (b :: rest) pos) σ H1 Q) : zE X (.BoolOp .Or (a :: b :: rest) pos) σ H Q := zE_of (pe_or (zE_ok a) (zE_ok _)) h
theorem e_bone {a : Expr} {op : BoolOp} {pos : Pos} (h : zE X a σ H Q) : zE X (.BoolOp op [a] pos) σ H Q := zE_of (pe_one (zE_ok a)) h
theorem e_not {a : Expr} {pos : Pos} (h : zE X a σ H fun x H1 => ∃ c, x = .bl c ∧ Q (.bl (!c)) H1) : zE X (.UnaryOp .Not a pos) σ H Q := zE_of (pe_not (zE_ok a)) h
theorem e_if {c a b : Expr} {pos : Pos} (h : zT X c σ H fun k H1 => if k = true then zE X a σ H1 Q else zE X b σ H1 Q) : zE X (.IfExp c a b pos) σ H Q := zE_of (pe_ifExp (zT_ok c) (zE_ok a) (zE_ok b)) h
theorem e_chain {a b c : Expr} {op op' : CmpOp} {pos : Pos} (h : zE X a σ H fun x H1 => zE X b σ H1 fun y H2 => zO X (compareOp op) x y H2 fun z H3 => ∃ k, z = V.bl k ∧ (if k = true then zE X c σ H3 fun w' H4 => zO X (compareOp op') y w' H4 Q else Q (V.bl false) H3))
    (hm : lastMarks [op, op'] [b, c] = false := by with_unfolding_all rfl) : zE X (.Compare a [op, op'] [b, c] pos) σ H Q := zE_of (pe_chain (zO_ok _) (zO_ok _) (zE_ok a) (zE_ok b) (zE_ok c) hm) h
def qB (QT : Bool → Hp → Prop) : VK := fun z H => ∃ k, z = V.bl k ∧ QT k H
theorem t_chain {a b c : Expr} {op op' : CmpOp} {pos : Pos} (h : zE X a σ H fun x H1 => zE X b σ H1 fun y H2 => zO X (compareOp op) x y H2 fun z H3 => ∃ k, z = V.bl k ∧ (if k = true then zE X c σ H3 fun w' H4 => zO X (compareOp op') y w' H4 (qB QT) else QT false H3))
    (hm : lastMarks [op, op'] [b, c] = false := by with_unfolding_all rfl) : zT X (.Compare a [op, op'] [b, c] pos) σ H QT := zT_of (pt_chain (zO_ok _) (zO_ok _) (zE_ok a) (zE_ok b) (zE_ok c) hm)
  (zE_mono h fun x H1 h1 => zE_mono h1 fun y H2 h2 => zO_mono h2 fun z H3 ⟨k, e, h3⟩ => ⟨k, e, by
    cases k with
    | true => exact h3
    | false => exact ⟨false, rfl, h3⟩⟩)
theorem a_nil (h : QA [] H) : zA X [] σ H QA := zA_of pa_nil h
theorem a_cons {e : Expr} {es : List Expr} (h : zE X e σ H fun x H1 => zA X es σ H1 fun xs H2 => QA (x :: xs) H2) (hs : starEach (e :: es) X.env = (false, eval e X.env) :: starEach es X.env := by rfl) : zA X (e :: es) σ H QA := zA_of (pa_cons (zE_ok e) (zA_ok es) hs) h
theorem e_tup {es : List Expr} {k pos} (h : zA X es σ H fun xs H1 => xs.length ≤ sizeLine ∧ ∀ p, H1 p = none → Q (.ref p) (upd H1 p (.tup xs))) : zE X (.Tuple es k pos) σ H Q := zE_of (pe_tup (zA_ok es)) h
theorem e_lst {es : List Expr} {pos} (h : zA X es σ H fun xs H1 => xs.length ≤ sizeLine ∧ ∀ p, H1 p = none → Q (.ref p) (upd H1 p (.lst xs))) : zE X (.List es pos) σ H Q := zE_of (pe_lst (zA_ok es)) h
theorem e_ix {a b : Expr} {pos : Pos} (h : zE X a σ H fun x H1 => zE X b σ H1 fun y H2 => zX X x y H2 Q) (hs : PlainIx b := by exact fun _ _ => rfl) : zE X (.Subscript a b pos) σ H Q := zE_of (pe_ix zX_ok (zE_ok a) (zE_ok b) hs) h
theorem e_slice {e : Expr} {lo hi : Option Expr} {pos p2 : Pos} (h : zE X e σ H fun x H1 => zP X lo σ H1 fun l H2 => zP X hi σ H2 fun u H3 => zSl X x l u H3 Q) : zE X (.Subscript e (.Slice lo hi none p2) pos) σ H Q := zE_of (pe_slice zSl_ok (zE_ok e) (zP_ok lo) (zP_ok hi)) h
theorem p_none {QO : Option Int → Hp → Prop} (h : QO none H) : zP X none σ H QO := zP_of po_none h
theorem p_some {e : Expr} {QO : Option Int → Hp → Prop} (h : zE X e σ H fun x H1 => ∃ i, x = .int i ∧ QO (some i) H1) : zP X (some e) σ H QO := zP_of (po_some (zE_ok e)) h
theorem e_callB {x : Str} {id : String} {e : Expr} {es : List Expr} {p pos : Pos} (hg : Gl X x) (hm : X.mg x = none) (hv : bootBuiltins x = some (.builtin id)) (h : zA X (e :: es) σ H fun vs H1 => zC X (.builtin id) vs H1 Q) (hn : x ≠ "__name__" := by decide) (hdb : (x == ("__debug__" : Str)) = false := by decide)
    (he : starEach (e :: es) X.env = (false, eval e X.env) :: starEach es X.env := by rfl) (hpl : (backTo pos (starEach es X.env)).any (·.1) = false := by rfl) : zE X (.Call (.Name x p) (e :: es) [] pos) σ H Q := zE_of (pe_callB (zC_ok _) hg hm hv (zA_ok _) hn hdb he hpl) h
theorem e_callT {x : Str} {id : String} {e : Expr} {es : List Expr} {p pos : Pos} (hg : Gl X x) (hm : X.mg x = none) (hv : bootBuiltins x = some (.type id)) (h : zA X (e :: es) σ H fun vs H1 => zC X (.type id) vs H1 Q) (hn : x ≠ "__name__" := by decide) (hdb : (x == ("__debug__" : Str)) = false := by decide)
    (he : starEach (e :: es) X.env = (false, eval e X.env) :: starEach es X.env := by rfl) (hpl : (backTo pos (starEach es X.env)).any (·.1) = false := by rfl) : zE X (.Call (.Name x p) (e :: es) [] pos) σ H Q := zE_of (pe_callTy (zC_ok _) hg hm hv (zA_ok _) hn hdb he hpl) h
theorem e_mt {o e : Expr} {es : List Expr} {name : Str} {apos cpos : Pos} {T id : String} {r : V → List V → Hp → VK → Prop} (pa : PlainAttrs T) (slot : Slot T name id) (hty : typeOf (.builtin id) = pure (.type "method_descriptor")) (hm : MtR X id r)
    (h : zE X o σ H fun x H1 => tyV X.K T x H1 ∧ zA X (e :: es) σ H1 fun xs H2 => r x xs H2 Q)
    (hbase : attributeBase o name X.env (eval o X.env) = eval o X.env := by rfl)
    (hfew : ((backTo cpos (starEach (e :: es) X.env)).all (fun x => !x.1) && (backToKw cpos (keywordEach [] X.env)).all (fun x => x.1.isSome)
      && decide ((e :: es).length + ([] : List Keyword).length + (if ([] : List Keyword).isEmpty then 0 else 1) < 30)) = true := by rfl)
    (hline : (apos.endLine == cpos.line) = true := by rfl) (hs : starEach (e :: es) X.env = (false, eval e X.env) :: starEach es X.env := by rfl) (hplain : (backTo cpos (starEach es X.env)).any (·.1) = false := by rfl) :
    zE X (.Call (.Attribute o name apos) (e :: es) [] cpos) σ H Q := zE_of (pe_bm pa slot hty hm (zE_ok o) (zA_ok _) hbase hfew hline hs hplain) h
theorem e_mt0 {o : Expr} {name : Str} {apos cpos : Pos} {T id : String} {r : V → List V → Hp → VK → Prop} (pa : PlainAttrs T) (slot : Slot T name id) (hty : typeOf (.builtin id) = pure (.type "method_descriptor")) (hm : MtR X id r)
    (h : zE X o σ H fun x H1 => tyV X.K T x H1 ∧ r x [] H1 Q)
    (hbase : attributeBase o name X.env (eval o X.env) = eval o X.env := by rfl) (hline : (apos.endLine == cpos.line) = true := by rfl) :
    zE X (.Call (.Attribute o name apos) [] [] cpos) σ H Q := zE_of (pe_bm0 pa slot hty hm (zE_ok o) hbase hline) h
end
end Z

namespace Z
open PySem L2

/-- where a body stands -/
structure Ctx (X : Cx) (P : Program) (w : World) (K : PySem.W.Frag) (mg : Str → Option Value) (base : Heap) (N : List Str) (sc : Scope) (k : Nat) : Prop where
  prog : X.prog = P
  wld : X.w = w
  frg : X.K = K
  mgl : X.mg = mg
  bas : X.base = base
  nms : X.N = N
  scp : X.env.scope = sc
  calm : X.calm = true
  room : Room k X.A
  own : PassesOwn (model X.prog X.w) X.A X.env X.xe
  nd : N.Nodup

def visB (sc : Scope) (x : Str) : Bool := (sc.names.lookup x == some .local) || ((sc.names.lookup x == some .cell) || (sc.names.lookup x == some .free))
def locB (sc : Scope) (x : Str) : Bool := (sc.names.lookup x == some .local) || (sc.names.lookup x == some .cell)
def lclB (sc : Scope) (x : Str) : Bool := sc.names.lookup x == some .local
def gloB (sc : Scope) (x : Str) : Bool := sc.names.lookup x == some .globalImplicit
section
variable {X : Cx} {P : Program} {w : World} {K : PySem.W.Frag} {mg : Str → Option Value} {base : Heap} {N : List Str} {sc : Scope} {k : Nat}
theorem Ctx.nm (C : Ctx X P w K mg base N sc k) {x : Str} {i : Nat} (h1 : N[i]? = some x) (h2 : visB sc x = true) : Nm X x i := by
  refine ⟨by rw [C.nms]; exact h1, ?_⟩
  rw [C.scp]
  unfold visB at h2
  simp only [Bool.or_eq_true, beq_iff_eq] at h2
  exact h2
theorem Ctx.ns (C : Ctx X P w K mg base N sc k) {x : Str} {i : Nat} (h1 : N[i]? = some x) (h2 : locB sc x = true) (hf : X.fn x = true ∨ lclB sc x = true) : Ns X x i := by
  refine ⟨by rw [C.nms]; exact C.nd, by rw [C.nms]; exact h1, ?_, ?_⟩
  · rw [C.scp]
    unfold locB at h2
    simp only [Bool.or_eq_true, beq_iff_eq] at h2
    exact h2
  · rw [C.scp]
    refine hf.imp id fun h => ?_
    unfold lclB at h
    exact beq_iff_eq.mp h
theorem Ctx.gl (C : Ctx X P w K mg base N sc k) {x : Str} (h : gloB sc x = true) : Gl X x := by
  show X.env.scope.names.lookup x = _
  rw [C.scp]
  unfold gloB at h
  exact beq_iff_eq.mp h
theorem Ctx.mono (C : Ctx X P w K mg base N sc k) {j : Nat} (h : j ≤ k) : Ctx X P w K mg base N sc j := { C with room := C.room.mono h }
theorem Ctx.lcl (C : Ctx X P w K mg base N sc k) {x : Str} (h : lclB sc x = true) : X.env.scope.names.lookup x = some .local := by
  rw [C.scp]
  unfold lclB at h
  exact beq_iff_eq.mp h
theorem Ctx.hu (C : Ctx X P w K mg base N sc k) : X.A.units + 1 < cLine := hu_of C.room

/-- a def of the module that may be called: its promise holds up to level j -/
structure Cal (P : Program) (w : World) (K : PySem.W.Frag) (mg : Str → Option Value) (base : Heap) (CX : CXT) (x : Str) (j : Nat) (n : Nat) (sp : Sp) : Prop where
  ex : ∃ (f : Addr) (fd : FuncData) (ps : List Str), FnOk P w K mg base CX j f fd ps sp ∧ mg x = some (.ref f) ∧ PySem.W.keepIn K (.ref f) = true ∧ Binds K fd ps [] ∧ ps.length = n
theorem Cal.imp {CX : CXT} {x : Str} {j n : Nat} {sp sp' : Sp} (c : Cal P w K mg base CX x j n sp) (h : ∀ vs H Q E, sp' vs H Q E → sp vs H Q E) : Cal P w K mg base CX x j n sp' := by
  obtain ⟨f, fd, ps, F, h1, h2, h3, h4⟩ := c.ex
  exact ⟨f, fd, ps, F.imp h, h1, h2, h3, h4⟩
variable {σ : St} {H : Hp} {Q : VK}
theorem e_cal (C : Ctx X P w K mg base N sc k) {CX : CXT} {x : Str} {j n : Nat} {sp : Sp} {E : XK} {e : Expr} {es : List Expr} {p pos : Pos} (c : Cal P w K mg base CX x j n sp) (hj : j ≤ k) (hx : Passes CX X E)
    (h : zA X (e :: es) σ H fun vs H1 => sp vs H1 Q E) (hg : gloB sc x = true := by decide +kernel) (hdb : (x == ("__debug__" : Str)) = false := by decide)
    (he : starEach (e :: es) X.env = (false, eval e X.env) :: starEach es X.env := by rfl) (hpl : (backTo pos (starEach es X.env)).any (·.1) = false := by rfl) : zE X (.Call (.Name x p) (e :: es) [] pos) σ H Q := by
  obtain ⟨f, fd, ps, F, h1, h2, h3, h4⟩ := c.ex
  obtain ⟨rfl, rfl, rfl, rfl, rfl, _, _, _, hr, _, _⟩ := C
  refine zE_of (pe_call (dvs := []) F (hr.mono hj) ?_ h1 h2 h3 .nil hx (zA_ok _) hdb he hpl) ?_
  · exact Ctx.gl ⟨rfl, rfl, rfl, rfl, rfl, ‹_›, ‹_›, ‹_›, hr, ‹_›, ‹_›⟩ hg
  · show zA X (e :: es) σ H fun vs H1 => sp (vs ++ []) H1 Q E
    simp only [List.append_nil]
    exact h
theorem e_cal0 (C : Ctx X P w K mg base N sc k) {x : Str} {j n : Nat} {sp : Sp} {e : Expr} {es : List Expr} {p pos : Pos} (c : Cal P w K mg base CX0 x j n sp) (hj : j ≤ k)
    (h : zA X (e :: es) σ H fun vs H1 => sp vs H1 Q E0) (hg : gloB sc x = true := by decide +kernel) (hdb : (x == ("__debug__" : Str)) = false := by decide)
    (he : starEach (e :: es) X.env = (false, eval e X.env) :: starEach es X.env := by rfl) (hpl : (backTo pos (starEach es X.env)).any (·.1) = false := by rfl) : zE X (.Call (.Name x p) (e :: es) [] pos) σ H Q := e_cal C c hj pass0 h hg hdb he hpl
/-- the body of a def: nothing leaves it -/
theorem fn_ok {x : Str} {st : Stmt} {dvs : List V} {kws : List (Str × V)} {f : Addr} {fd : FuncData} {ps : List Str} {sp : Sp}
    (F : FunD K x x (defArgs st) (defBody st) (defScope st) dvs kws f fd) (S : FnScope N ps (defScope st)) (len : ∀ vs H Q E, sp vs H Q E → vs.length = ps.length)
    (body : ∀ X vs H Q E, Ctx X P w K mg base N (defScope st) k → (∀ y, X.fn y = true) → sp vs H Q E → zB X (defBody st) (fun _ H' => Q .non H') Q (fun _ _ => False) (fun _ _ => False) (start N vs) H) : FnOk P w K mg base CX0 (k + 1) f fd ps sp :=
  F.ok S len fun cdv A outer s H vs Q E hr h => ⟨_, PSs.nox (zB_ok _), body _ vs H Q E ⟨rfl, rfl, rfl, rfl, rfl, rfl, rfl, rfl, hr, PassesOwn.never, S.nd⟩ (fun _ => rfl) h⟩
end
end Z

namespace Z
open PySem L2
abbrev Ex := Evl.Ex
abbrev tl (z : Str) : List Nat := z.cps.toList

/-! ### what is walked -/
/-- J gives n items while S stands; Y tells the i-th at the heap behind -/
structure Walk (J : It) (n : Nat) (S : Hp → Prop) (Y : Nat → V → Hp → Prop) : Prop where
  go : ∀ i H, i < n → S H → J.go i H
  stop : ∀ H, S H → J.stop n H
  yld : ∀ i H x H', i < n → S H → J.yld i H x H' → Ex H H' ∧ Y i x H'
theorem walk_list {K : PySem.W.Frag} (a : Addr) (xs : List V) : Walk (Itl K a) xs.length (fun H => SqL K H a xs) (fun i x _ => xs[i]? = some x) where
  go := fun i H hi h => ⟨xs, xs[i], h, by simp [hi]⟩
  stop := fun H h => ⟨xs, h, Nat.le_refl _⟩
  yld := fun i H x H' hi h y => by
    obtain ⟨e, y⟩ := y
    subst e
    exact ⟨Evl.Ex.refl _, y xs h⟩
theorem walk_tup {K : PySem.W.Frag} (a : Addr) (xs : List V) : Walk (Itt K a) xs.length (fun H => SqT K H a xs) (fun i x _ => xs[i]? = some x) where
  go := fun i H hi h => ⟨xs, xs[i], h, by simp [hi]⟩
  stop := fun H h => ⟨xs, h, Nat.le_refl _⟩
  yld := fun i H x H' hi h y => by
    obtain ⟨e, y⟩ := y
    subst e
    exact ⟨Evl.Ex.refl _, y xs h⟩
theorem walk_range (lo : Int) (n : Nat) : Walk (Itr lo n) n (fun _ => True) (fun i x _ => x = .int (lo + (i : Int))) where
  go := fun i H hi _ => hi
  stop := fun H _ => Nat.le_refl _
  yld := fun i H x H' hi _ y => by
    obtain ⟨e, y⟩ := y
    subst e
    exact ⟨Evl.Ex.refl _, y⟩
theorem walk_rangeC (lo c : Int) (n : Nat) : Walk (Itc lo c n) n (fun _ => True) (fun i x _ => x = .int (lo + (i : Int) * c)) where
  go := fun i H hi _ => hi
  stop := fun H _ => Nat.le_refl _
  yld := fun i H x H' hi _ y => by
    obtain ⟨e, y⟩ := y
    subst e
    exact ⟨Evl.Ex.refl _, y⟩
theorem walk_str (z : Str) : Walk (Its z) (tl z).length (fun _ => True) (fun i x _ => ∃ c, (tl z)[i]? = some c ∧ x = .str ⟨#[c]⟩) where
  go := fun i H hi _ => by show i < z.cps.size; simpa using hi
  stop := fun H _ => by show z.cps.size ≤ (tl z).length; simp
  yld := fun i H x H' hi _ y => by
    obtain ⟨e, c, y, ex⟩ := y
    subst e
    exact ⟨Evl.Ex.refl _, c, by simpa using y, ex⟩
theorem walk_enum {K : PySem.W.Frag} (a : Addr) (xs : List V) : Walk (Ite K a) xs.length (fun H => SqL K H a xs) (fun i x H' => ∃ T y, x = .ref T ∧ xs[i]? = some y ∧ H' T = some (.tup [.int (i : Int), y])) where
  go := fun i H hi h => ⟨xs, xs[i], h, by simp [hi]⟩
  stop := fun H h => ⟨xs, h, Nat.le_refl _⟩
  yld := fun i H x H' hi h y => by
    obtain ⟨T, z, e, hT, e2, y⟩ := y
    subst e2
    exact ⟨Evl.Ex.new hT, T, z, e, y xs h, upd_same⟩
theorem walk_zip {K : PySem.W.Frag} (a b : Addr) (xs ys : List V) : Walk (Itz K a b) (min xs.length ys.length) (fun H => SqL K H a xs ∧ SqL K H b ys) (fun i x H' => ∃ T y z, x = .ref T ∧ xs[i]? = some y ∧ ys[i]? = some z ∧ H' T = some (.tup [y, z])) where
  go := fun i H hi h => ⟨xs, ys, xs[i]'(by omega), ys[i]'(by omega), h.1, h.2, List.getElem?_eq_getElem _, List.getElem?_eq_getElem _⟩
  stop := fun H h => ⟨xs, ys, h.1, h.2, by omega⟩
  yld := fun i H x H' hi h y => by
    obtain ⟨T, z, u, e, hT, e2, y1, y2⟩ := y
    subst e2
    exact ⟨Evl.Ex.new hT, T, z, u, e, y1 xs h.1, y2 ys h.2, upd_same⟩
theorem walk_zipT {K : PySem.W.Frag} (a b : Addr) (xs ys : List V) : Walk (RZ.ItzT K a b) (min xs.length ys.length) (fun H => SqT K H a xs ∧ SqT K H b ys) (fun i x H' => ∃ T y z, x = .ref T ∧ xs[i]? = some y ∧ ys[i]? = some z ∧ H' T = some (.tup [y, z])) where
  go := fun i H hi h => ⟨xs, ys, xs[i]'(by omega), ys[i]'(by omega), h.1, h.2, List.getElem?_eq_getElem _, List.getElem?_eq_getElem _⟩
  stop := fun H h => ⟨xs, ys, h.1, h.2, by omega⟩
  yld := fun i H x H' hi h y => by
    obtain ⟨T, z, u, e, hT, e2, y1, y2⟩ := y
    subst e2
    exact ⟨Evl.Ex.new hT, T, z, u, e, y1 xs h.1, y2 ys h.2, upd_same⟩

/-! ### enumerate of a text -/
def ItS (x : Str) : It :=
  ⟨fun i _ => i < x.cps.size, fun i H v H' => ∃ T c, v = .ref T ∧ H T = none ∧ H' = upd H T (.tup [.int (i : Nat), .str ⟨#[c]⟩]) ∧ x.cps[i]? = some c, fun i _ => x.cps.size ≤ i⟩
theorem walk_enumS (z : Str) : Walk (ItS z) (tl z).length (fun _ => True) (fun i x H' => ∃ T c, x = .ref T ∧ (tl z)[i]? = some c ∧ H' T = some (.tup [.int (i : Int), .str ⟨#[c]⟩])) where
  go := fun i H hi _ => by show i < z.cps.size; simpa using hi
  stop := fun H _ => by show z.cps.size ≤ (tl z).length; simp
  yld := fun i H x H' hi h y => by
    obtain ⟨T, c, e, hT, e2, y⟩ := y
    subst e2
    exact ⟨Evl.Ex.new hT, T, c, e, by simpa using y, upd_same⟩
theorem turn_enumS {P : Program} {w : World} {K : PySem.W.Frag} {elts : List Expr} {kk : Nat} {tpos : Pos} (z : Str) (t : Tok) (e it : Addr) :
    Turn P w K (.Tuple elts kk tpos) (ItS z) [e, it] e (fun i h => (∃ old, IsEnum h e it ((i : Nat) : Int) old) ∧ h.IsStrIter it (strIterType z) z t i ∧ e ≠ it ∧ i ≤ z.cps.size) where
  mem := List.mem_cons_self
  obj := fun i h ⟨⟨old, he⟩, ⟨o, ho, hc, hd⟩, _⟩ b hb => by
    rcases List.mem_cons.mp hb with q | hb
    · exact ⟨_, by rw [q]; exact he, fun v x => by cases x⟩
    · rw [List.mem_singleton.mp hb]
      exact ⟨o, ho, fun v x => by rw [hd] at x; cases x⟩
  keep := fun i h h' ⟨⟨old, he⟩, ⟨o, ho, r⟩, hne⟩ k => ⟨⟨old, k e (by simp) _ he⟩, ⟨o, k it (by simp) o ho, r⟩, hne⟩
  item := fun X hP hw hK hc i ps s σ H E I hf ⟨⟨old, he⟩, hit, hne, hle⟩ hg => by
    cases hP; cases hw; cases hK
    have hel : e < s.heap.objs.size := Heap.lt_size he
    have hil : it < s.heap.objs.size := by obtain ⟨_, q, _⟩ := hit; exact Heap.lt_size q
    have hef : e ∉ [it] := fun q => hne (List.mem_singleton.mp q)
    refine wpAny_pyNext_enum_itemD (Draws.text (A := X.A.in1) (I.ok.hd hc) it z t) he hit hg hne hef fun x h' tk hP ho hit' hT hsz hk => ?_
    obtain ⟨c, u, hcx, rfl⟩ := hP
    refine ⟨_, rfl, wpAny_letOwnedTupleGo_enum (s := { s with heap := h', toks := tk + 1 }) ho fun h2 he' sb => ?_⟩
    have hT2 := (sb.2 _ (Nat.ne_of_gt hel)).trans hT
    have new : ObjOk X.prog X.w (upd H s.heap.objs.size (.tup [.int (i : Nat), .str ⟨#[c]⟩])) h2 s.heap.objs.size (.tup [.int (i : Nat), .str ⟨#[c]⟩]) :=
      ⟨by show 2 ≤ sizeLine; decide, _, .cons ⟨tk, rfl⟩ (.cons ⟨u, rfl⟩ .nil), ⟨_, hT2, rfl, _, rfl⟩⟩
    have I1 := I.turnedNew (t' := tk + 1) (ch := [e, it]) (fun b ob hb q => (sb.2 b (fun y => hb (by simp [y]))).trans (hk b ob (fun y => hb (by simp [y])) (fun y => hb (by simp [y])) q)) hf (Nat.le_refl _) new
    have e1 : ((i + 1 : Nat) : Int) = (i : Int) + 1 := by omega
    refine ⟨.ref s.heap.objs.size, _, I1, rfl, ⟨_, c, rfl, I.hok.fresh (Nat.le_refl _), rfl, hcx⟩, ⟨⟨.str ⟨#[c]⟩ u, by rw [e1]; exact he'⟩, ?_, hne, hg⟩, fun b hb => ?_⟩
    · obtain ⟨o, q, r⟩ := hit'
      exact ⟨o, (sb.2 it (Ne.symm hne)).trans q, r⟩
    · have hb' : b < s.heap.objs.size := by
        rcases List.mem_cons.mp hb with q | hb
        · rw [q]; exact hel
        · rw [List.mem_singleton.mp hb]; exact hil
      rw [upd_ne (Nat.ne_of_lt hb')]
      exact (hf b hb).1
  done := fun X hP hw hK hc i ps s σ H E I hf ⟨⟨old, he⟩, hit, hne, hle⟩ hg => by
    cases hP; cases hw; cases hK
    have hi : i = z.cps.size := Nat.le_antisymm hle hg
    obtain ⟨f0, f1, f2, f3, f4, f5⟩ := hf it (by simp)
    exact wpAny_pyNext_enum_endD (Draws.text (A := X.A.in1) (I.ok.hd hc) it z t) he (by rw [← hi]; exact hit) fun h' eb => ⟨rfl, I.turned (t' := s.toks) (fun b o hb q => eb b o hb q) f0 f1 f3 f4 f5⟩
  self := fun A i s Q E ⟨⟨_, he⟩, _⟩ h => wpAny_pyIter_enum he h
section
variable {X : Cx} {P : Program} {w : World} {K : PySem.W.Frag} {mg : Str → Option Value} {base : Heap} {N : List Str} {sc : Scope} {k : Nat}
variable {σ : St} {H : Hp} {nx bk ct : St → Hp → Prop} {rt : VK} {Q : VK} {R : It → Hp → Prop} {tg : Expr}
/-! ### iterables -/
theorem i_list {l : Expr} (h : zE X l σ H fun x H1 => ∃ a, x = .ref a ∧ (∃ xs, SqL X.K H1 a xs) ∧ R (Itl X.K a) H1) : zI X tg l σ H R := zI_of (pi_list (zE_ok l)) h
theorem i_tup {l : Expr} (h : zE X l σ H fun x H1 => ∃ a, x = .ref a ∧ (∃ xs, SqT X.K H1 a xs) ∧ R (Itt X.K a) H1) : zI X tg l σ H R := zI_of (pi_tup (zE_ok l)) h
theorem i_str {l : Expr} (h : zE X l σ H fun x H1 => ∃ z, x = .str z ∧ R (Its z) H1) : zI X tg l σ H R := zI_of (pi_str (zE_ok l)) h
theorem i_range1 {a : Expr} {p pos : Pos} (hg : Gl X "range") (hm : X.mg "range" = none) (h : zE X a σ H fun x H1 => ∃ j : Int, x = .int j ∧ -(2 ^ 62) ≤ j ∧ j < 2 ^ 62 ∧ R (Itr 0 j.toNat) H1)
    (hs : starEach [a] X.env = [(false, eval a X.env)] := by rfl) : zI X tg (.Call (.Name "range" p) [a] [] pos) σ H R :=
  zI_of (pi_range1 hg hm (zA_ok _) hs) (a_cons (zE_mono h fun v H1 ⟨j, e, h1, h2, h3⟩ => a_nil ⟨j, by rw [e], h1, h2, h3⟩) hs)
theorem i_range2 {a b : Expr} {p pos : Pos} (hg : Gl X "range") (hm : X.mg "range" = none) (h : zE X a σ H fun x H1 => zE X b σ H1 fun y H2 => ∃ i j : Int, x = .int i ∧ y = .int j ∧ (-(2 ^ 62) ≤ i ∧ i < 2 ^ 62 ∧ -(2 ^ 62) ≤ j ∧ j < 2 ^ 62) ∧ R (Itr i (j - i).toNat) H2)
    (hs : starEach [a, b] X.env = [(false, eval a X.env), (false, eval b X.env)] := by rfl) (hs2 : starEach [b] X.env = [(false, eval b X.env)] := by rfl) : zI X tg (.Call (.Name "range" p) [a, b] [] pos) σ H R :=
  zI_of (pi_range2 hg hm (zA_ok _) hs hs2) (a_cons (zE_mono h fun v H1 h1 => a_cons (zE_mono h1 fun u H2 ⟨i, j, e1, e2, h2, h3⟩ => a_nil ⟨i, j, by rw [e1, e2], h2, h3⟩) hs2) (hs.trans (by rw [hs2])))
theorem i_range3 {a b c : Expr} {p pos : Pos} (hp : PI X tg (.Call (.Name "range" p) [a, b, c] [] pos) (iRng3 (zA X [a, b, c]))) (h : zA X [a, b, c] σ H fun vs H1 => ∃ (i j c : Int) (n : Nat), vs = [.int i, .int j, .int c] ∧ RgC i j c n ∧ R (Itc i c n) H1) : zI X tg (.Call (.Name "range" p) [a, b, c] [] pos) σ H R := zI_of hp h
theorem i_enum {e : Expr} {elts : List Expr} {kk : Nat} {p pos tpos : Pos} (hg : Gl X "enumerate") (hm : X.mg "enumerate" = none) (h : zE X e σ H fun x H1 => ∃ a xs, x = .ref a ∧ SqL X.K H1 a xs ∧ R (Ite X.K a) H1)
    (hs : starEach [e] X.env = [(false, eval e X.env)] := by rfl) : zI X (.Tuple elts kk tpos) (.Call (.Name "enumerate" p) [e] [] pos) σ H R :=
  zI_of (pi_enum hg hm (zA_ok _) hs) (a_cons (zE_mono h fun v H1 ⟨a, xs, e, h1, h2⟩ => a_nil ⟨a, xs, by rw [e], h1, h2⟩) hs)
theorem pi_enumS {e : Expr} {elts : List Expr} {kk : Nat} {p pos tpos : Pos} (hg : Gl X "enumerate") (hm : X.mg "enumerate" = none) (hs : starEach [e] X.env = [(false, eval e X.env)] := by rfl) :
    PI X (.Tuple elts kk tpos) (.Call (.Name "enumerate" p) [e] [] pos) (fun σ H R => zA X [e] σ H fun vs H1 => ∃ z, vs = [.str z] ∧ R (ItS z) H1) := ⟨fun ps s σ H R I h => by
  refine PyProof.Rows.Call_ (ld_blt I hg hm PyProof.Rows.boot_enumerate (PyProof.Rows.callWith_type1 (thn ((zA_ok [e]).run pos ps s σ H _ I h) fun us s1 ⟨vs, H1, I1, r1, z, ex, q⟩ => ?_) hs rfl))
  subst ex
  obtain ⟨u, eu, t, rfl⟩ := vals1 r1
  subst eu
  refine call_enumerate_str fun h' he hit hsz hk => wpAny_pyIter_enum he ?_
  have I2 : Inv X ps σ H1 { s1 with heap := h' } := I1.kept (t' := s1.toks) hk
  refine ⟨s1.heap.objs.size + 1, [s1.heap.objs.size + 1, s1.heap.objs.size], _, _, H1, rfl, I2, turn_enumS z t (s1.heap.objs.size + 1) s1.heap.objs.size, ⟨⟨.none, he⟩, hit, Nat.succ_ne_self _, Nat.zero_le _⟩, fun b hb => ?_, q⟩
  have hle : s1.heap.objs.size ≤ b := by
    rcases List.mem_cons.mp hb with y | hb
    · exact Nat.le_trans (Nat.le_add_right _ 1) (Nat.le_of_eq y.symm)
    · exact Nat.le_of_eq (List.mem_singleton.mp hb).symm
  exact I1.fpOk hle (I1.hok.fresh hle)⟩
theorem i_enumS {e : Expr} {elts : List Expr} {kk : Nat} {p pos tpos : Pos} (hg : Gl X "enumerate") (hm : X.mg "enumerate" = none) (h : zE X e σ H fun x H1 => ∃ z, x = .str z ∧ R (ItS z) H1)
    (hs : starEach [e] X.env = [(false, eval e X.env)] := by rfl) : zI X (.Tuple elts kk tpos) (.Call (.Name "enumerate" p) [e] [] pos) σ H R :=
  zI_of (pi_enumS hg hm hs) (a_cons (zE_mono h fun v H1 ⟨a, e, h1⟩ => a_nil ⟨a, by rw [e], h1⟩) hs)
/-! ### for -/
/-- what is to be shown of a loop over n items: a word Pv between the turns (bk: what a break is to show) -/
structure Loop (X : Cx) (tg : Expr) (body : List Stmt) (nx bk : St → Hp → Prop) (rt : VK) (σ : St) (H : Hp) (n : Nat) (S : Hp → Prop) (Y : Nat → V → Hp → Prop) (Pv : Nat → St → Hp → Prop) : Prop where
  start : Pv 0 σ H
  src : ∀ i σ H, i ≤ n → Pv i σ H → S H
  turn : ∀ i x σ H H', i < n → Pv i σ H → Ex H H' → Y i x H' → zG X tg x σ H' fun σ2 H2 => zB X body (Pv (i + 1)) rt bk (Pv (i + 1)) σ2 H2
  done : ∀ σ H, Pv n σ H → nx σ H
theorem zB_bk {body : List Stmt} {bk' : St → Hp → Prop} (h : zB X body nx rt bk ct σ H) (k : ∀ σ H, bk σ H → bk' σ H) : zB X body nx rt bk' ct σ H := by
  unfold zB at h ⊢
  exact fun ps s I => thn (h ps s I) fun f s1 q => by
    cases f with
    | next => exact q
    | ret v => exact q
    | brk => obtain ⟨σ', H', I', q⟩ := q; exact ⟨σ', H', I', k _ _ q⟩
    | cont => exact q
theorem zG_mono {v : V} {Q Q' : St → Hp → Prop} (h : zG X tg v σ H Q) (k : ∀ σ' H', Q σ' H' → Q' σ' H') : zG X tg v σ H Q' := by
  unfold zG at h ⊢
  exact fun ps s u I r => thn (h ps s u I r) fun _ s1 ⟨σ1, H1, I1, q1⟩ => ⟨σ1, H1, I1, k _ _ q1⟩
theorem s_forB {it : Expr} {body : List Stmt} {pos : Pos} {bj : St → Hp → Prop} (C : Ctx X P w K mg base N sc k) (hb : ∀ σ H, bj σ H → nx σ H) (h : zI X tg it σ H fun J H1 => ∃ n S Y Pv, Walk J n S Y ∧ Loop X tg body nx bj rt σ H1 n S Y Pv)
    (hs : ∀ x, foldedSetIterable it X.env x = pure x := by intro _; rfl) : zS X (.For tg it body [] pos) nx rt bk ct σ H := by
  refine zS_of (ps_for C.own C.calm (zI_ok tg it) (zG_ok tg) (zB_ok body) hs) ?_
  show zI X tg it σ H _
  unfold zI at h ⊢
  intro ps s I
  refine thn (h ps s I) fun v s1 h1 => thn h1 fun itv s2 h2 => ?_
  obtain ⟨i0, fp, tn, J, H2, e, I2, T, st2, f2, n, S, Y, Pv, W, L⟩ := h2
  refine ⟨i0, fp, tn, J, H2, e, I2, T, st2, f2, fun i m σ H => m = n - i ∧ i ≤ n ∧ Pv i σ H, ⟨n, rfl, Nat.zero_le _, L.start⟩, ?_⟩
  rintro i m σ H ⟨rfl, hi, p⟩
  by_cases hlt : i < n
  · refine .inr ⟨W.go i H hlt (L.src i σ H hi p), Pv (i + 1), fun σ' H' p' => ⟨n - (i + 1), by omega, rfl, hlt, p'⟩, fun x H' y => ?_⟩
    obtain ⟨e1, y1⟩ := W.yld i H x H' hlt (L.src i σ H hi p) y
    exact zG_mono (L.turn i x σ H H' hlt p e1 y1) fun σ2 H3 q => zB_bk q hb
  · have e : i = n := by omega
    subst e
    exact .inl ⟨W.stop H (L.src i σ H hi p), L.done σ H p⟩
/-- no break within -/
theorem s_for {it : Expr} {body : List Stmt} {pos : Pos} (C : Ctx X P w K mg base N sc k) (h : zI X tg it σ H fun J H1 => ∃ n S Y Pv, Walk J n S Y ∧ Loop X tg body nx (fun _ _ => False) rt σ H1 n S Y Pv)
    (hs : ∀ x, foldedSetIterable it X.env x = pure x := by intro _; rfl) : zS X (.For tg it body [] pos) nx rt bk ct σ H := s_forB C (fun _ _ h => h.elim) h hs
/-- while: a word W m with a measure m; no break within -/
theorem s_while {c : Expr} {body : List Stmt} {pos : Pos} (C : Ctx X P w K mg base N sc k) (W : Nat → St → Hp → Prop) (m0 : Nat) (h0 : W m0 σ H)
    (hs : ∀ m σ H, W m σ H → zT X c σ H fun b H1 => if b = true then zB X body (fun σ' H' => ∃ m', m' < m ∧ W m' σ' H') rt (fun _ _ => False) (fun σ' H' => ∃ m', m' < m ∧ W m' σ' H') σ H1 else nx σ H1) : zS X (.While c body [] pos) nx rt bk ct σ H :=
  zS_of (ps_while C.own (zT_ok c) (zB_ok body)) ⟨W, ⟨m0, h0⟩, fun m σ H w => zT_mono (hs m σ H w) fun b H1 h => by
    cases b with
    | false => exact h
    | true => exact ⟨_, fun σ' H' q => q, zB_bk h fun _ _ z => z.elim⟩⟩
/-- targets of a tuple -/
def zGs (X : Cx) (ts : List Expr) : TGs := fun vs σ H Q => ∀ ps s us, Inv X ps σ H s → Vals vs us → wpAny (model X.prog X.w) X.A (assignInOrder ((assignEach ts X.env).map (·.2)) us) (fun _ s' => ∃ σ' H', Inv X ps σ' H' s' ∧ Q σ' H') X.xe s
theorem zGs_ok (ts : List Expr) : PGs X ts (zGs X ts) := ⟨fun ps s σ H vs us Q I r h => h ps s us I r⟩
theorem zGs_of {ts : List Expr} {t : TGs} (g : PGs X ts t) {vs : List V} {QG : St → Hp → Prop} (h : t vs σ H QG) : zGs X ts vs σ H QG := fun ps s us I r => g.run ps s σ H vs us QG I r h
theorem gs_nil {QG : St → Hp → Prop} (h : QG σ H) : zGs X [] [] σ H QG := zGs_of pgs_nil ⟨rfl, h⟩
theorem gs_cons {e : Expr} {es : List Expr} {v : V} {vs : List V} {QG : St → Hp → Prop} (h : zG X e v σ H fun σ' H' => zGs X es vs σ' H' QG)
    (hs : (assignEach (e :: es) X.env).map (·.2) = assign e X.env :: (assignEach es X.env).map (·.2) := by rfl) : zGs X (e :: es) (v :: vs) σ H QG := zGs_of (pgs_cons (zG_ok e) (zGs_ok es) hs) ⟨v, vs, rfl, h⟩
theorem g_tup {es : List Expr} {kk : Nat} {pos : Pos} {a : Addr} {vs : List V} {QG : St → Hp → Prop} (C : Ctx X P w K mg base N sc k) (ha : SqT X.K H a vs) (h : zGs X es vs σ H QG)
    (hn : (assignEach es X.env).length = vs.length := by rfl) (hst : (assignEach es X.env).findIdx? (·.1) = none := by rfl) : zG X (.Tuple es kk pos) (.ref a) σ H QG :=
  zG_of (pg_tup C.calm (zGs_ok es) rfl hst) ⟨a, vs, rfl, ha, hn.symm, h⟩
end
end Z

namespace Z
open PySem L2
theorem relabel_eq {X : Cx} {sc scope : Scope} (h : X.env.scope = sc) : relabel scope X.env = relS scope sc := by
  subst h
  rfl
section
variable {X : Cx} {P : Program} {w : World} {K : PySem.W.Frag} {mg : Str → Option Value} {base : Heap} {N : List Str} {sc : Scope} {k : Nat}
variable {σ : St} {H : Hp} {nx bk ct : St → Hp → Prop} {rt : VK} {Q : VK} {tg : Expr}
theorem Ctx.blk (C : Ctx X P w K mg base N sc k) (s : Shared) (H : Hp) (scope : Scope) (c0 : Addr) (cl : List (Str × Addr)) (fp : List Addr) : Ctx (X.blk s H scope (compEnvC scope cl c0 X.env) fp) P w K mg base N (relS scope sc) k :=
  ⟨C.prog, C.wld, C.frg, C.mgl, C.bas, C.nms, relabel_eq C.scp, C.calm, C.room, PassesOwn.never, C.nd⟩
/-- a block's body, whatever its context -/
def zGb (X : Cx) (scope : Scope) (tg : Expr) : TG := fun v σ H Q => ∀ s H0 c0 cl fp, zG (X.blk s H0 scope (compEnvC scope cl c0 X.env) fp) tg v σ H Q
def zTb (X : Cx) (scope : Scope) (ifs : List Expr) : TT := fun σ H Q => ∀ s H0 c0 cl fp, zTs (X.blk s H0 scope (compEnvC scope cl c0 X.env) fp) ifs σ H Q
def zEb (X : Cx) (scope : Scope) (e : Expr) : TE := fun σ H Q => ∀ s H0 c0 cl fp, zE (X.blk s H0 scope (compEnvC scope cl c0 X.env) fp) e σ H Q
theorem zI_mono {it : Expr} {R R' : It → Hp → Prop} (h : zI X tg it σ H R) (q : ∀ J H', R J H' → R' J H') : zI X tg it σ H R' := by
  unfold zI at h ⊢
  exact fun ps s I => thn (h ps s I) fun v s1 h1 => thn h1 fun u s2 ⟨i0, fp, tn, J, H2, e, I2, T, st2, f2, r⟩ => ⟨i0, fp, tn, J, H2, e, I2, T, st2, f2, q J H2 r⟩
theorem ts_nil {QT : Bool → Hp → Prop} (h : QT true H) : zTs X [] σ H QT := zTs_of pts_nil h
theorem ts_one {c : Expr} {QT : Bool → Hp → Prop} (h : zT X c σ H QT) : zTs X [c] σ H QT := zTs_of (pts_one (zT_ok c)) h
/-- all but D stands -/
def Xb (D : Addr) (H H' : Hp) : Prop := ∀ b o, b ≠ D → H b = some o → H' b = some o
theorem Xb.of {D : Addr} {H H' : Hp} (e : Ex H H') : Xb D H H' := fun b o _ h => e b o h
theorem Xb.upd {D : Addr} {H : Hp} {o : HO} : Xb D H (L2.upd H D o) := fun b u hb h => by rw [upd_ne hb]; exact h
theorem Xb.ex {D : Addr} {H0 H H' : Hp} (e : Ex H0 H) (n : H0 D = none) (x : Xb D H H') : Ex H0 H' := fun b o h => x b o (ne_of_none h n) (e b o h)
/-- what is to be shown of a comprehension over n items: Acc, the list made so far at D, between the turns -/
structure Comp (X : Cx) (tg elt : Expr) (ifs : List Expr) (scope : Scope) (own : List Nat) (σ : St) (H : Hp) (n : Nat) (S : Hp → Prop) (Y : Nat → V → Hp → Prop) (Acc : Addr → Nat → List V → Hp → Prop) : Prop where
  small : n ≤ 100000
  start : ∀ D H', H D = none → Ex H H' → Acc D 0 [] H'
  src : ∀ H', Ex H H' → S H'
  keep : ∀ D i ys H' H'', Xb D H' H'' → Acc D i ys H' → Acc D i ys H''
  len : ∀ D i ys H', Acc D i ys H' → ys.length ≤ i
  turn : ∀ D i x ys H', i < n → H D = none → Ex H H' → H' D = some (.lst ys) → Acc D i ys H' → Y i x H' → zGb X scope tg x (wipe σ own) H' fun σ2 H2 => wipe σ2 own = wipe σ own ∧ Ex H' H2 ∧
    zTb X scope ifs σ2 H2 fun b H3 => Ex H' H3 ∧ if b = true then zEb X scope elt σ2 H3 fun y H4 => Ex H' H4 ∧ Acc D (i + 1) (ys ++ [y]) H4 else Acc D (i + 1) ys H3
theorem zGb_mono {scope : Scope} {v : V} {Q Q' : St → Hp → Prop} (h : zGb X scope tg v σ H Q) (k : ∀ σ' H', Q σ' H' → Q' σ' H') : zGb X scope tg v σ H Q' := fun s H0 c0 cl fp => by
  have h := h s H0 c0 cl fp
  unfold zG at h ⊢
  exact fun ps s u I r => thn (h ps s u I r) fun _ s1 ⟨σ1, H1, I1, q1⟩ => ⟨σ1, H1, I1, k _ _ q1⟩
theorem zTb_mono {scope : Scope} {ifs : List Expr} {Q Q' : Bool → Hp → Prop} (h : zTb X scope ifs σ H Q) (k : ∀ b H', Q b H' → Q' b H') : zTb X scope ifs σ H Q' := fun s H0 c0 cl fp => by
  have h := h s H0 c0 cl fp
  unfold zTs at h ⊢
  exact fun ps s I => thn (h ps s I) fun _ s1 ⟨H1, I1, q1⟩ => ⟨H1, I1, k _ _ q1⟩
theorem zEb_mono {scope : Scope} {e : Expr} {Q Q' : VK} (h : zEb X scope e σ H Q) (k : ∀ b H', Q b H' → Q' b H') : zEb X scope e σ H Q' := fun s H0 c0 cl fp => zE_mono (h s H0 c0 cl fp) k
theorem small_lt {n : Nat} (h : n ≤ 100000) : n < sizeLine := Nat.lt_of_le_of_lt h (by decide)
theorem lc_run {J : It} {H1 : Hp} {n : Nat} {S : Hp → Prop} {Y : Nat → V → Hp → Prop} {elt : Expr} {ifs : List Expr} {scope : Scope} {own : List Nat} {Acc : Addr → Nat → List V → Hp → Prop} (W : Walk J n S Y) (L : Comp X tg elt ifs scope own σ H1 n S Y Acc)
    {Qd : V → Hp → Prop} (hd : ∀ D ys H', H1 D = none → Ex H1 H' → H' D = some (.lst ys) → Acc D n ys H' → Qd (.ref D) H') (D : Addr) (hD : H1 D = none) : ∃ W : Nat → Nat → Hp → Prop, (∃ m, W 0 m (upd H1 D (.lst []))) ∧ ∀ i m H, W i m H →
  (J.stop i H ∧ Qd (.ref D) H) ∨ (J.go i H ∧ ∃ Nx : Hp → Prop, (∀ H', Nx H' → ∃ m', m' < m ∧ W (i + 1) m' H') ∧ ∀ x H', J.yld i H x H' → zGb X scope tg x (wipe σ own) H' fun σ2 H2 => wipe σ2 own = wipe σ own ∧ zTb X scope ifs σ2 H2 fun b H3 =>
    if b = true then zEb X scope elt σ2 H3 fun y H4 => ∃ acc, H4 D = some (.lst acc) ∧ acc.length < sizeLine ∧ Nx (upd H4 D (.lst (acc ++ [y]))) else Nx H3) := by
  refine ⟨fun i m H => m = n - i ∧ i ≤ n ∧ ∃ ys, H D = some (.lst ys) ∧ Ex H1 H ∧ Acc D i ys H, ⟨n, rfl, Nat.zero_le _, [], upd_same, Evl.Ex.new hD, L.start D _ hD (Evl.Ex.new hD)⟩, ?_⟩
  rintro i m H ⟨rfl, hi, ys, h1, h2, h3⟩
  by_cases hlt : i < n
  · refine .inr ⟨W.go i H hlt (L.src H h2), fun H' => ∃ ys, H' D = some (.lst ys) ∧ Ex H1 H' ∧ Acc D (i + 1) ys H', fun H' ⟨ys, a, b, c⟩ => ⟨n - (i + 1), by omega, rfl, hlt, ys, a, b, c⟩, fun x H' y => ?_⟩
    obtain ⟨e1, y1⟩ := W.yld i H x H' hlt (L.src H h2) y
    refine zGb_mono (L.turn D i x ys H' hlt hD (h2.trans e1) (e1 _ _ h1) (L.keep D i ys H H' (.of e1) h3) y1) fun σ2 H2 ⟨w1, e2, h4⟩ => ⟨w1, zTb_mono h4 fun b H3 ⟨e3, h5⟩ => ?_⟩
    cases b with
    | false => exact ⟨ys, e3 _ _ (e1 _ _ h1), (h2.trans e1).trans e3, h5⟩
    | true =>
      refine zEb_mono (show zEb X scope elt σ2 H3 _ from h5) fun v H4 ⟨e4, h6⟩ => ⟨ys, e4 _ _ (e1 _ _ h1), small_lt ?_, _, upd_same, Xb.ex ((h2.trans e1).trans e4) hD .upd, L.keep D _ _ _ _ .upd h6⟩
      have := L.len D i ys H h3
      have := L.small
      omega
  · have e : i = n := by omega
    subst e
    exact .inl ⟨W.stop H (L.src H h2), hd D ys H hD h2 h1 h3⟩
/-- [elt for tg in it if ..] -/
theorem e_lc {elt it : Expr} {ifs : List Expr} {scope : Scope} {own : List (Str × Nat)} {pos : Pos} (C : Ctx X P w K mg base N sc k) (hb : blkC N sc scope own = true)
    (h : zI X tg it σ H fun J H1 => ∃ n S Y Acc, Walk J n S Y ∧ Comp X tg elt ifs scope (own.map (·.2)) σ H1 n S Y Acc ∧ ∀ D ys H', H1 D = none → Ex H1 H' → H' D = some (.lst ys) → Acc D n ys H' → Q (.ref D) H')
    (hs : ∀ x, foldedSetIterable it X.env x = pure x := by intro _; rfl) : zE X (.ListComp elt [⟨tg, it, ifs, 0⟩] scope pos) σ H Q := by
  refine zE_of (pe_lc (own := own) C.calm (by rw [C.nms]; exact C.nd) (zI_ok tg it) (by rw [C.nms, C.scp]; exact blkOk_by hb) (g := zGb X scope tg) (tt := zTb X scope ifs) (te := zEb X scope elt)
    (fun s H0 c0 cl fp => ⟨fun ps s' σ H v u Q I r q => (zG_ok tg).run ps s' σ H v u Q I r (q s H0 c0 cl fp)⟩) (fun s H0 c0 cl fp => ⟨fun ps s' σ H Q I q => (zTs_ok ifs).run ps s' σ H Q I (q s H0 c0 cl fp)⟩)
    (fun s H0 c0 cl fp => ⟨fun ps s' σ H Q I q => (zE_ok elt).run ps s' σ H Q I (q s H0 c0 cl fp)⟩) hs) ?_
  show zI X tg it σ H _
  refine zI_mono h fun J H1 ⟨n, S, Y, Acc, W, L, hd⟩ D hD => lc_run W L hd D hD
/-- y = [elt for tg in it if ..], y a local -/
theorem s_lc {i : Nat} {y : Str} {py : Pos} {elt it : Expr} {ifs : List Expr} {scope : Scope} {own : List (Str × Nat)} {pos spos : Pos} (C : Ctx X P w K mg base N sc k) (hb : blkC N sc scope own = true) (hy : N[i]? = some y) (hyl : lclB sc y = true)
    (hk : sc.kind = .function) (hl : (py.line == pos.line && spos.line == spos.line) = true) (ha : (scope.names.any fun (n, k) => n == y && (k == .local || k == .cell)) = false)
    (h : zI X tg it σ H fun J H1 => ∃ n S Y Acc, Walk J n S Y ∧ Comp X tg elt ifs scope (own.map (·.2)) σ H1 n S Y Acc ∧ ∀ D' ys H', H1 D' = none → Ex H1 H' → H' D' = some (.lst ys) → Acc D' n ys H' → nx (σ.set i (some (.ref D'))) H')
    (hs : ∀ x, foldedSetIterable it X.env x = pure x := by intro _; rfl) : zS X (.Assign [.Name y py] (.ListComp elt [⟨tg, it, ifs, 0⟩] scope pos) spos) nx rt bk ct σ H := by
  have hsw : swapsWith (.ListComp elt [⟨tg, it, ifs, 0⟩] scope pos) (some (.Name y py)) spos.line X.env = pure true := sw_true (by rw [C.scp]; exact hk) (C.lcl hyl) (by simpa using hl) ha
  refine zS_of (ps_setLc (own := own) (i := i) C.calm (by rw [C.nms]; exact C.nd) (by rw [C.nms]; exact hy) (C.lcl hyl) hsw (zI_ok tg it) (by rw [C.nms, C.scp]; exact blkOk_by hb) (g := zGb X scope tg) (tt := zTb X scope ifs) (te := zEb X scope elt)
    (fun s H0 c0 cl fp => ⟨fun ps s' σ H v u Q I r q => (zG_ok tg).run ps s' σ H v u Q I r (q s H0 c0 cl fp)⟩) (fun s H0 c0 cl fp => ⟨fun ps s' σ H Q I q => (zTs_ok ifs).run ps s' σ H Q I (q s H0 c0 cl fp)⟩)
    (fun s H0 c0 cl fp => ⟨fun ps s' σ H Q I q => (zE_ok elt).run ps s' σ H Q I (q s H0 c0 cl fp)⟩) hs) ?_
  show zI X tg it σ H _
  refine zI_mono h fun J H1 ⟨n, S, Y, Acc, W, L, hd⟩ D0 hD => lc_run (Qd := fun x H1 => gName i x σ H1 nx) W L hd D0 hD
/-! ### a block's parts -/
theorem gb_intro {scope : Scope} {v : V} {QG : St → Hp → Prop} (C : Ctx X P w K mg base N sc k) (h : ∀ X1, Ctx X1 P w K mg base N (relS scope sc) k → zG X1 tg v σ H QG) : zGb X scope tg v σ H QG := fun s H0 c0 cl fp => h _ (C.blk s H0 scope c0 cl fp)
theorem tb_intro {scope : Scope} {ifs : List Expr} {QT : Bool → Hp → Prop} (C : Ctx X P w K mg base N sc k) (h : ∀ X1, Ctx X1 P w K mg base N (relS scope sc) k → zTs X1 ifs σ H QT) : zTb X scope ifs σ H QT := fun s H0 c0 cl fp => h _ (C.blk s H0 scope c0 cl fp)
theorem eb_intro {scope : Scope} {e : Expr} (C : Ctx X P w K mg base N sc k) (h : ∀ X1, Ctx X1 P w K mg base N (relS scope sc) k → zE X1 e σ H Q) : zEb X scope e σ H Q := fun s H0 c0 cl fp => h _ (C.blk s H0 scope c0 cl fp)
/-- [elt for x in it], each item's value known by its turn -/
theorem comp_map {x : Str} {j : Nat} {px : Pos} {elt : Expr} {scope : Scope} {own : List Nat} {n : Nat} {S : Hp → Prop} {Y : Nat → V → Hp → Prop} (C : Ctx X P w K mg base N sc k) (g : Nat → V) (hn : n ≤ 100000) (hsrc : ∀ H', Ex H H' → S H')
    (h1 : N[j]? = some x) (h2 : lclB (relS scope sc) x = true) (hw : ∀ v, wipe ((wipe σ own).set j (some v)) own = wipe σ own)
    (he : ∀ i v H', i < n → Ex H H' → Y i v H' → ∀ X1, Ctx X1 P w K mg base N (relS scope sc) k → zE X1 elt ((wipe σ own).set j (some v)) H' fun y H4 => Ex H' H4 ∧ y = g i) :
    Comp X (.Name x px) elt [] scope own σ H n S Y (fun _ i ys _ => ys = (List.range i).map g) where
  small := hn
  start := fun _ _ _ _ => rfl
  src := hsrc
  keep := fun _ _ _ _ _ _ h => h
  len := fun _ i ys _ h => by rw [h]; simp
  turn := fun D i v ys H' hi hD e1 hl ha hy => gb_intro C fun X1 C1 => g_name (C1.ns h1 (by unfold locB; unfold lclB at h2; rw [h2]; rfl) (.inr h2)) ⟨hw v, Evl.Ex.refl _, fun _ _ _ _ _ => ts_nil ⟨Evl.Ex.refl _, if_pos rfl ▸ eb_intro C fun X2 C2 =>
    zE_mono (he i v H' hi e1 hy X2 C2) fun y H4 ⟨e4, q⟩ => ⟨e4, by rw [ha, q, List.range_succ, List.map_append]; rfl⟩⟩⟩
/-- [elt for x in it if c] -/
theorem comp_filter {x : Str} {j : Nat} {px : Pos} {elt c : Expr} {scope : Scope} {own : List Nat} {n : Nat} {S : Hp → Prop} {Y : Nat → V → Hp → Prop} (C : Ctx X P w K mg base N sc k) (f : Nat → Bool) (g : Nat → V) (hn : n ≤ 100000) (hsrc : ∀ H', Ex H H' → S H')
    (h1 : N[j]? = some x) (h2 : lclB (relS scope sc) x = true) (hw : ∀ v, wipe ((wipe σ own).set j (some v)) own = wipe σ own)
    (hc : ∀ i v H', i < n → Ex H H' → Y i v H' → ∀ X1, Ctx X1 P w K mg base N (relS scope sc) k → zT X1 c ((wipe σ own).set j (some v)) H' fun b H3 => Ex H' H3 ∧ b = f i)
    (he : ∀ i v H', i < n → Ex H H' → Y i v H' → ∀ H3, Ex H' H3 → f i = true → ∀ X1, Ctx X1 P w K mg base N (relS scope sc) k → zE X1 elt ((wipe σ own).set j (some v)) H3 fun y H4 => Ex H3 H4 ∧ y = g i) :
    Comp X (.Name x px) elt [c] scope own σ H n S Y (fun _ i ys _ => ys = ((List.range i).filter f).map g) where
  small := hn
  start := fun _ _ _ _ => rfl
  src := hsrc
  keep := fun _ _ _ _ _ _ h => h
  len := fun _ i ys _ h => by rw [h, List.length_map]; exact Nat.le_trans (List.length_filter_le _ _) (by simp)
  turn := fun D i v ys H' hi hD e1 hl ha hy => gb_intro C fun X1 C1 => g_name (C1.ns h1 (by unfold locB; unfold lclB at h2; rw [h2]; rfl) (.inr h2)) ⟨hw v, Evl.Ex.refl _, tb_intro C fun X2 C2 => ts_one (zT_mono (hc i v H' hi e1 hy X2 C2) fun b H3 ⟨e3, hb⟩ => ⟨e3, by
    subst hb
    cases hf : f i with
    | false =>
      show ys = _
      rw [ha, List.range_succ, List.filter_append, List.map_append, List.filter_cons, hf]
      simp
    | true =>
      show zEb X scope elt _ H3 _
      exact eb_intro C fun X3 C3 => zE_mono (he i v H' hi e1 hy H3 e3 hf X3 C3) fun y H4 ⟨e4, q⟩ => ⟨e3.trans e4, by
        rw [ha, q, List.range_succ, List.filter_append, List.map_append, List.filter_cons, hf]
        simp⟩⟩)⟩
/-- the same, whatever the target: st i is what the names are in turn i -/
theorem comp_mapG {elt : Expr} {scope : Scope} {own : List Nat} {n : Nat} {S : Hp → Prop} {Y : Nat → V → Hp → Prop} (C : Ctx X P w K mg base N sc k) (st : Nat → V → St) (g : Nat → V) (hn : n ≤ 100000) (hsrc : ∀ H', Ex H H' → S H')
    (hg : ∀ i v H', i < n → Ex H H' → Y i v H' → ∀ X1, Ctx X1 P w K mg base N (relS scope sc) k → zG X1 tg v (wipe σ own) H' fun σ2 H2 => σ2 = st i v ∧ wipe (st i v) own = wipe σ own ∧ H2 = H')
    (he : ∀ i v H', i < n → Ex H H' → Y i v H' → ∀ X1, Ctx X1 P w K mg base N (relS scope sc) k → zE X1 elt (st i v) H' fun y H4 => Ex H' H4 ∧ y = g i) :
    Comp X tg elt [] scope own σ H n S Y (fun _ i ys _ => ys = (List.range i).map g) where
  small := hn
  start := fun _ _ _ _ => rfl
  src := hsrc
  keep := fun _ _ _ _ _ _ h => h
  len := fun _ i ys _ h => by rw [h]; simp
  turn := fun D i v ys H' hi hD e1 hl ha hy => gb_intro C fun X1 C1 => zG_mono (hg i v H' hi e1 hy X1 C1) fun σ2 H2 ⟨q1, q2, q3⟩ => by
    subst q1; subst q3
    exact ⟨q2, Evl.Ex.refl _, fun _ _ _ _ _ => ts_nil ⟨Evl.Ex.refl _, if_pos rfl ▸ eb_intro C fun X2 C2 => zE_mono (he i v _ hi e1 hy X2 C2) fun y H4 ⟨e4, q⟩ => ⟨e4, by rw [ha, q, List.range_succ, List.map_append]; rfl⟩⟩⟩
theorem comp_filterG {elt c : Expr} {scope : Scope} {own : List Nat} {n : Nat} {S : Hp → Prop} {Y : Nat → V → Hp → Prop} (C : Ctx X P w K mg base N sc k) (st : Nat → V → St) (f : Nat → Bool) (g : Nat → V) (hn : n ≤ 100000) (hsrc : ∀ H', Ex H H' → S H')
    (hg : ∀ i v H', i < n → Ex H H' → Y i v H' → ∀ X1, Ctx X1 P w K mg base N (relS scope sc) k → zG X1 tg v (wipe σ own) H' fun σ2 H2 => σ2 = st i v ∧ wipe (st i v) own = wipe σ own ∧ H2 = H')
    (hc : ∀ i v H', i < n → Ex H H' → Y i v H' → ∀ X1, Ctx X1 P w K mg base N (relS scope sc) k → zT X1 c (st i v) H' fun b H3 => Ex H' H3 ∧ b = f i)
    (he : ∀ i v H', i < n → Ex H H' → Y i v H' → ∀ H3, Ex H' H3 → f i = true → ∀ X1, Ctx X1 P w K mg base N (relS scope sc) k → zE X1 elt (st i v) H3 fun y H4 => Ex H3 H4 ∧ y = g i) :
    Comp X tg elt [c] scope own σ H n S Y (fun _ i ys _ => ys = ((List.range i).filter f).map g) where
  small := hn
  start := fun _ _ _ _ => rfl
  src := hsrc
  keep := fun _ _ _ _ _ _ h => h
  len := fun _ i ys _ h => by rw [h, List.length_map]; exact Nat.le_trans (List.length_filter_le _ _) (by simp)
  turn := fun D i v ys H' hi hD e1 hl ha hy => gb_intro C fun X1 C1 => zG_mono (hg i v H' hi e1 hy X1 C1) fun σ2 H2 ⟨q1, q2, q3⟩ => by
    subst q1; subst q3
    exact ⟨q2, Evl.Ex.refl _, tb_intro C fun X2 C2 => ts_one (zT_mono (hc i v _ hi e1 hy X2 C2) fun b H3 ⟨e3, hb⟩ => ⟨e3, by
      subst hb
      cases hf : f i with
      | false =>
        show ys = _
        rw [ha, List.range_succ, List.filter_append, List.map_append, List.filter_cons, hf]
        simp
      | true =>
        show zEb X scope elt _ H3 _
        exact eb_intro C fun X3 C3 => zE_mono (he i v _ hi e1 hy H3 e3 hf X3 C3) fun y H4 ⟨e4, q⟩ => ⟨e3.trans e4, by
          rw [ha, q, List.range_succ, List.filter_append, List.map_append, List.filter_cons, hf]
          simp⟩⟩)⟩
end
end Z

namespace Z
open PySem L2
/-! ### heaps: what stands goes on -/
theorem ex_l {K : PySem.W.Frag} {H H' : Hp} {a : Addr} {xs : List V} (e : Ex H H') (h : SqL K H a xs) : SqL K H' a xs := Evl.ex_l e h
theorem ex_t {K : PySem.W.Frag} {H H' : Hp} {a : Addr} {xs : List V} (e : Ex H H') (h : SqT K H a xs) : SqT K H' a xs := Evl.ex_t e h
theorem xb_l {K : PySem.W.Frag} {H H' : Hp} {D a : Addr} {xs : List V} (x : Xb D H H') (hn : ∀ u, H D = some u → D ≠ a) (hD : ∃ u, H D = some u) (h : SqL K H a xs) : SqL K H' a xs := by
  obtain ⟨u, hu⟩ := hD
  have hne := (hn u hu).symm
  rcases h with (h | ⟨o, h⟩) | h
  · exact .inl (.inl (x a _ hne h))
  · exact .inl (.inr ⟨o, x a _ hne h⟩)
  · exact .inr h
theorem ex_g {H H' : Hp} {a : Addr} {o : HO} (e : Ex H H') (h : H a = some o) : H' a = some o := e a o h
theorem ex_n {H H' : Hp} {a : Addr} (e : Ex H H') (h : H' a = none) : H a = none := Evl.fresh_back e h
theorem get_ne {H : Hp} {a b : Addr} {o u : HO} (h : b ≠ a) (e : H b = some u) : upd H a o b = some u := by rw [upd_ne h]; exact e
theorem len_tl (z : Str) : z.length = (tl z).length := by simp [Str.length]
theorem lenI_tl (z : Str) : (z.length : Int) = ((tl z).length : Int) := by rw [len_tl]
theorem ext_tl {x y : Str} (h : tl x = tl y) : x = y := TL.ext_tl h
theorem tl_app (x y : Str) : tl (x ++ y) = tl x ++ tl y := TL.tl_append x y
theorem tl_one (c : Nat) : tl ⟨#[c]⟩ = [c] := rfl
theorem sz_le {n : Nat} (h : n ≤ 100000) : n ≤ sizeLine := Nat.le_trans h (by decide)
theorem cutV_take (xs : List V) (n : Nat) : cutV xs none (some (n : Int)) = xs.take n := by
  unfold cutV
  rw [HT.sIx_none, HT.sIx_nat, List.drop_zero, Nat.sub_zero]
  by_cases h : n ≤ xs.length
  · rw [Nat.min_eq_left h]
  · rw [Nat.min_eq_right (by omega), List.take_of_length_le (Nat.le_refl _), List.take_of_length_le (by omega)]
theorem cutV_drop (xs : List V) (n : Nat) : cutV xs (some (n : Int)) none = xs.drop n := by
  unfold cutV
  rw [HT.sIx_none, HT.sIx_nat]
  by_cases h : n ≤ xs.length
  · rw [Nat.min_eq_left h, List.take_of_length_le (by simp)]
  · rw [Nat.min_eq_right (by omega), List.drop_of_length_le (Nat.le_refl _), List.drop_of_length_le (by omega)]; simp
theorem cutS_take (z : Str) (n : Nat) : tl (cutS z none (some (n : Int))) = (tl z).take n := by
  show ((tl z).drop _).take _ = _
  rw [HT.sIx_none, HT.sIx_nat, List.drop_zero, Nat.sub_zero, len_tl]
  by_cases h : n ≤ (tl z).length
  · rw [Nat.min_eq_left h]
  · rw [Nat.min_eq_right (by omega), List.take_of_length_le (Nat.le_refl _), List.take_of_length_le (by omega)]
theorem cutS_drop (z : Str) (n : Nat) : tl (cutS z (some (n : Int)) none) = (tl z).drop n := by
  show ((tl z).drop _).take _ = _
  rw [HT.sIx_none, HT.sIx_nat, len_tl]
  by_cases h : n ≤ (tl z).length
  · rw [Nat.min_eq_left h, List.take_of_length_le (by simp)]
  · rw [Nat.min_eq_right (by omega), List.drop_of_length_le (Nat.le_refl _), List.drop_of_length_le (by omega)]; simp
theorem cutS_mid (z : Str) (a b : Nat) (h : b ≤ (tl z).length) : tl (cutS z (some (a : Int)) (some (b : Int))) = ((tl z).drop a).take (b - a) := by
  show ((tl z).drop _).take _ = _
  rw [HT.sIx_nat, HT.sIx_nat, len_tl, Nat.min_eq_left h]
  by_cases h2 : a ≤ (tl z).length
  · rw [Nat.min_eq_left h2]
  · rw [Nat.min_eq_right (by omega), show b - (tl z).length = 0 by omega, show b - a = 0 by omega]; simp
theorem mk_tl (z : Str) : (⟨(tl z).toArray⟩ : Str) = z := ext_tl rfl
section
variable {X : Cx} {P : Program} {w : World} {K : PySem.W.Frag} {mg : Str → Option Value} {base : Heap} {N : List Str} {sc : Scope} {k : Nat}
variable {σ : St} {H : Hp} {nx bk ct : St → Hp → Prop} {rt : VK} {Q : VK} {tg : Expr} {i j : Int} {x y : V} {a b : Expr} {p pos : Pos}
/-! ### the goal's kind (for the steps) -/
theorem idE {e : Expr} (h : zE X e σ H Q) : zE X e σ H Q := h
theorem idT {e : Expr} {QT : Bool → Hp → Prop} (h : zT X e σ H QT) : zT X e σ H QT := h
theorem idW {e : Expr} {QT : Bool → Hp → Prop} (h : zW X e σ H QT) : zW X e σ H QT := h
theorem idA {es : List Expr} {QA : List V → Hp → Prop} (h : zA X es σ H QA) : zA X es σ H QA := h
theorem idS {st : Stmt} (h : zS X st nx rt bk ct σ H) : zS X st nx rt bk ct σ H := h
theorem idB {st : List Stmt} (h : zB X st nx rt bk ct σ H) : zB X st nx rt bk ct σ H := h
theorem idO {f : Value → Value → Sem Value} (h : zO X f x y H Q) : zO X f x y H Q := h
theorem idU {f : Value → Sem Value} (h : zU X f x H Q) : zU X f x H Q := h
theorem idG {v : V} {QG : St → Hp → Prop} (h : zG X tg v σ H QG) : zG X tg v σ H QG := h
theorem idGs {ts : List Expr} {vs : List V} {QG : St → Hp → Prop} (h : zGs X ts vs σ H QG) : zGs X ts vs σ H QG := h
theorem idP {o : Option Expr} {QO : Option Int → Hp → Prop} (h : zP X o σ H QO) : zP X o σ H QO := h
theorem idSet {o i v : V} {QH : Hp → Prop} (h : zSet X o i v H QH) : zSet X o i v H QH := h
theorem idX (h : zX X x y H Q) : zX X x y H Q := h
theorem idC {f : Value} {vs : List V} (h : zC X f vs H Q) : zC X f vs H Q := h
/-! ### operators -/
theorem o_add (h : Q (.int (i + j)) H) : zO X (binaryOp .Add) (.int i) (.int j) H Q := zO_of op_add ⟨i, j, rfl, rfl, h⟩
theorem o_sub (h : Q (.int (i - j)) H) : zO X (binaryOp .Sub) (.int i) (.int j) H Q := zO_of op_sub ⟨i, j, rfl, rfl, h⟩
theorem o_iadd (h : Q (.int (i + j)) H) : zO X (inplaceOp .Add) (.int i) (.int j) H Q := zO_of iop_add ⟨i, j, rfl, rfl, h⟩
theorem o_isub (h : Q (.int (i - j)) H) : zO X (inplaceOp .Sub) (.int i) (.int j) H Q := zO_of iop_sub ⟨i, j, rfl, rfl, h⟩
theorem o_mulL (hi : -(2 ^ 64) < i ∧ i < 2 ^ 64) (h : Q (.int (i * j)) H) : zO X (binaryOp .Mult) (.int i) (.int j) H Q := zO_of op_mul ⟨i, j, rfl, rfl, .inl hi, h⟩
theorem o_mulR (hi : -(2 ^ 64) < j ∧ j < 2 ^ 64) (h : Q (.int (i * j)) H) : zO X (binaryOp .Mult) (.int i) (.int j) H Q := zO_of op_mul ⟨i, j, rfl, rfl, .inr hi, h⟩
theorem o_mod (hj : 0 < j) (h : Q (.int (i % j)) H) : zO X (binaryOp .Mod) (.int i) (.int j) H Q := zO_of op_mod ⟨i, j, rfl, rfl, hj, h⟩
theorem o_div (hj : 0 < j ∧ j < 1073741824) (h : Q (.int (i / j)) H) : zO X (binaryOp .FloorDiv) (.int i) (.int j) H Q := zO_of op_fdiv ⟨i, j, rfl, rfl, hj, h⟩
theorem o_pow (hj : 0 ≤ j ∧ j ≤ 1000000 ∧ i.natAbs < 2 ^ 64) (h : Q (.int (i ^ j.toNat)) H) : zO X (binaryOp .Pow) (.int i) (.int j) H Q := zO_of op_pow ⟨i, j, rfl, rfl, hj, h⟩
theorem o_addS {u v : Str} (hz : u.length + v.length ≤ sizeLine) (h : Q (.str (u ++ v)) H) : zO X (binaryOp .Add) (.str u) (.str v) H Q := zO_of op_add_str ⟨u, v, rfl, rfl, hz, h⟩
theorem o_addL {l m : Addr} {xs zs : List V} (h1 : H l = some (.lst xs)) (h2 : H m = some (.lst zs)) (hz : xs.length + zs.length ≤ sizeLine) (h : ∀ p H', H p = none → Ex H H' → H' p = some (.lst (xs ++ zs)) → Q (.ref p) H') :
    zO X (binaryOp .Add) (.ref l) (.ref m) H Q := zO_of op_cat ⟨l, m, xs, zs, rfl, rfl, h1, h2, hz, fun p hp => h p _ hp (Evl.Ex.new hp) upd_same⟩
theorem o_rep {l : Addr} {xs : List V} (h1 : H l = some (.lst xs)) (hj : -(2 ^ 63) ≤ j ∧ j < 2 ^ 63) (hz : xs.length * j.toNat ≤ sizeLine) (h : ∀ p H', H p = none → Ex H H' → H' p = some (.lst (List.replicate j.toNat xs).flatten) → Q (.ref p) H') :
    zO X (binaryOp .Mult) (.ref l) (.int j) H Q := zO_of op_rep ⟨l, j, xs, rfl, rfl, h1, hj.1, hj.2, hz, fun p hp => h p _ hp (Evl.Ex.new hp) upd_same⟩
theorem o_neg (h : Q (.int (-i)) H) : zU X (unaryOp .USub) (.int i) H Q := zU_of un_neg ⟨i, rfl, h⟩
/-! ### comparisons -/
theorem o_lt (h : Q (.bl (decide (i < j))) H) : zO X (compareOp .Lt) (.int i) (.int j) H Q := zO_of op_lt ⟨i, j, rfl, rfl, h⟩
theorem o_le (h : Q (.bl (decide (i ≤ j))) H) : zO X (compareOp .LtE) (.int i) (.int j) H Q := zO_of op_le ⟨i, j, rfl, rfl, h⟩
theorem o_gt (h : Q (.bl (decide (j < i))) H) : zO X (compareOp .Gt) (.int i) (.int j) H Q := zO_of op_gt ⟨i, j, rfl, rfl, h⟩
theorem o_ge (h : Q (.bl (decide (j ≤ i))) H) : zO X (compareOp .GtE) (.int i) (.int j) H Q := zO_of op_ge ⟨i, j, rfl, rfl, h⟩
theorem dec_cg {p q : Prop} [Decidable p] [Decidable q] (h : p ↔ q) : decide p = decide q := by
  by_cases hp : p
  · rw [decide_eq_true hp, decide_eq_true (h.mp hp)]
  · rw [decide_eq_false hp, decide_eq_false fun z => hp (h.mpr z)]
theorem o_eqI (h : Q (.bl (decide (i = j))) H) : zO X (compareOp .Eq) (.int i) (.int j) H Q := zO_of op_eq ⟨rfl, by rw [dec_cg (q := i = j) ⟨fun e => V.int.inj e, fun e => by rw [e]⟩]; exact h⟩
theorem o_neI (h : Q (.bl (!decide (i = j))) H) : zO X (compareOp .NotEq) (.int i) (.int j) H Q := zO_of op_ne ⟨rfl, by rw [dec_cg (q := i = j) ⟨fun e => V.int.inj e, fun e => by rw [e]⟩]; exact h⟩
theorem o_eqS {u v : Str} (h : Q (.bl (decide (u = v))) H) : zO X (compareOp .Eq) (.str u) (.str v) H Q := zO_of op_eq ⟨rfl, by rw [dec_cg (q := u = v) ⟨fun e => V.str.inj e, fun e => by rw [e]⟩]; exact h⟩
theorem o_neS {u v : Str} (h : Q (.bl (!decide (u = v))) H) : zO X (compareOp .NotEq) (.str u) (.str v) H Q := zO_of op_ne ⟨rfl, by rw [dec_cg (q := u = v) ⟨fun e => V.str.inj e, fun e => by rw [e]⟩]; exact h⟩
theorem o_eqB {u v : Bool} (h : Q (.bl (decide (u = v))) H) : zO X (compareOp .Eq) (.bl u) (.bl v) H Q := zO_of op_eq ⟨rfl, by rw [dec_cg (q := u = v) ⟨fun e => V.bl.inj e, fun e => by rw [e]⟩]; exact h⟩
theorem o_neB {u v : Bool} (h : Q (.bl (!decide (u = v))) H) : zO X (compareOp .NotEq) (.bl u) (.bl v) H Q := zO_of op_ne ⟨rfl, by rw [dec_cg (q := u = v) ⟨fun e => V.bl.inj e, fun e => by rw [e]⟩]; exact h⟩
theorem o_ltS {u v : Str} (h : Q (.bl (decide (tl u < tl v))) H) : zO X (compareOp .Lt) (.str u) (.str v) H Q := zO_of op_lt_str ⟨u, v, rfl, rfl, h⟩
theorem o_isN (h : Q (.bl (decide (x = .non))) H) : zO X (compareOp .Is) x .non H Q := zO_of op_isN ⟨rfl, h⟩
theorem o_notN (h : Q (.bl (!decide (x = .non))) H) : zO X (compareOp .IsNot) x .non H Q := zO_of op_notN ⟨rfl, h⟩
theorem o_inC {c : Nat} {z : Str} (h : Q (.bl (decide (c ∈ tl z))) H) : zO X (compareOp .In) (.str ⟨#[c]⟩) (.str z) H Q := zO_of op_in_sign ⟨c, z, rfl, rfl, h⟩
theorem o_ninC {c : Nat} {z : Str} (h : Q (.bl (!decide (c ∈ tl z))) H) : zO X (compareOp .NotIn) (.str ⟨#[c]⟩) (.str z) H Q := zO_of op_notIn_sign ⟨c, z, rfl, rfl, h⟩
theorem o_inL {l : Addr} {xs : List V} (hl : SqL X.K H l xs) (hx : flatV x = true) (ha : xs.all flatV = true) (h : Q (.bl (inV x xs)) H) : zO X (compareOp .In) x (.ref l) H Q := zO_of op_in_seq ⟨l, xs, rfl, .inl hl, hx, ha, h⟩
theorem o_ninL {l : Addr} {xs : List V} (hl : SqL X.K H l xs) (hx : flatV x = true) (ha : xs.all flatV = true) (h : Q (.bl (!inV x xs)) H) : zO X (compareOp .NotIn) x (.ref l) H Q := zO_of op_notIn_seq ⟨l, xs, rfl, .inl hl, hx, ha, h⟩
theorem o_inT {l : Addr} {xs : List V} (hl : SqT X.K H l xs) (hx : flatV x = true) (ha : xs.all flatV = true) (h : Q (.bl (inV x xs)) H) : zO X (compareOp .In) x (.ref l) H Q := zO_of op_in_seq ⟨l, xs, rfl, .inr hl, hx, ha, h⟩
/-! ### places -/
theorem x_l {l : Addr} {xs : List V} {v : V} (hl : SqL X.K H l xs) (ha : atI xs i = some v) (h : Q v H) : zX X (.ref l) (.int i) H Q := zX_of ix_list ⟨l, xs, i, v, rfl, rfl, hl, ha, h⟩
theorem x_t {l : Addr} {xs : List V} {v : V} (hl : SqT X.K H l xs) (ha : atI xs i = some v) (h : Q v H) : zX X (.ref l) (.int i) H Q := zX_of ix_tup ⟨l, xs, i, v, rfl, rfl, hl, ha, h⟩
theorem x_s {z : Str} {c : Nat} (hz : z.length ≤ sizeLine) (ha : atI (tl z) i = some c) (h : Q (.str ⟨#[c]⟩) H) : zX X (.str z) (.int i) H Q := zX_of ix_str ⟨z, i, c, rfl, rfl, hz, ha, h⟩
theorem st_l {l : Addr} {xs : List V} {v : V} {j : Nat} {QH : Hp → Prop} (hl : H l = some (.lst xs)) (hj : ixN xs.length i = some j) (h : QH (upd H l (.lst (xs.set j v)))) : zSet X (.ref l) (.int i) v H QH := zSet_of set_list ⟨l, xs, i, j, rfl, rfl, hl, hj, h⟩
theorem st_lU {l : Addr} {xs : List V} {v : V} {j : Nat} {QH : Hp → Prop} (hj : ixN xs.length i = some j) (h : QH (upd H l (.lst (xs.set j v)))) : zSet X (.ref l) (.int i) v (upd H l (.lst xs)) QH := st_l upd_same hj (by rw [upd_upd]; exact h)
theorem ix_ok {n : Nat} (h0 : 0 ≤ i) (h1 : i < n) : ixN n i = some i.toNat := by unfold ixN; rw [if_pos h0, if_pos h1]
theorem at_ok {α : Type} {xs : List α} {v : α} (h0 : 0 ≤ i) (hv : xs[i.toNat]? = some v) : atI xs i = some v := by
  have h1 : i.toNat < xs.length := (List.getElem?_eq_some_iff.mp hv).1
  unfold atI
  rw [ix_ok h0 (by omega)]
  exact hv
theorem at_last {α : Type} {xs : List α} {v : α} (hv : xs.getLast? = some v) : atI xs (-1) = some v := by
  obtain ⟨ys, rfl⟩ := List.getLast?_eq_some_iff.mp hv
  exact L2.atI_last ys v
theorem l_sl {l : Addr} {xs : List V} {lo hi : Option Int} (hl : SqL X.K H l xs) (h : ∀ p H', H p = none → Ex H H' → H' p = some (.lst (cutV xs lo hi)) → Q (.ref p) H') : zSl X (.ref l) lo hi H Q :=
  zSl_of sl_list ⟨l, xs, rfl, hl, fun p hp => h p _ hp (Evl.Ex.new hp) upd_same⟩
theorem s_sl {z : Str} {lo hi : Option Int} (hz : z.length ≤ sizeLine) (h : Q (.str (cutS z lo hi)) H) : zSl X (.str z) lo hi H Q := zSl_of sl_str ⟨z, rfl, hz, h⟩
/-! ### displays: a new thing -/
theorem n_lst {es : List Expr} (h : zA X es σ H fun xs H1 => xs.length ≤ sizeLine ∧ ∀ p H', H1 p = none → Ex H1 H' → H' p = some (.lst xs) → Q (.ref p) H') : zE X (.List es pos) σ H Q :=
  e_lst (zA_mono h fun xs H1 ⟨z, q⟩ => ⟨z, fun p hp => q p _ hp (Evl.Ex.new hp) upd_same⟩)
theorem n_tup {es : List Expr} {kk} (h : zA X es σ H fun xs H1 => xs.length ≤ sizeLine ∧ ∀ p H', H1 p = none → Ex H1 H' → H' p = some (.tup xs) → Q (.ref p) H') : zE X (.Tuple es kk pos) σ H Q :=
  e_tup (zA_mono h fun xs H1 ⟨z, q⟩ => ⟨z, fun p hp => q p _ hp (Evl.Ex.new hp) upd_same⟩)
/-! ### built-ins by name -/
theorem e_len (C : Ctx X P w K mg base N sc k) (hm : mg "len" = none) (h : zE X a σ H fun v H1 => zC X (.builtin "len") [v] H1 Q) (hg : gloB sc "len" = true := by decide +kernel) (he : starEach [a] X.env = (false, eval a X.env) :: starEach [] X.env := by rfl) : zE X (.Call (.Name "len" p) [a] [] pos) σ H Q :=
  e_callB (C.gl hg) (by rw [C.mgl]; exact hm) PySem.boot_len (a_cons (zE_mono h fun v H1 q => a_nil q) he) (he := he)
theorem e_int1 (C : Ctx X P w K mg base N sc k) (hm : mg "int" = none) (h : zE X a σ H fun v H1 => zC X (.type "int") [v] H1 Q) (hg : gloB sc "int" = true := by decide +kernel) (he : starEach [a] X.env = (false, eval a X.env) :: starEach [] X.env := by rfl) : zE X (.Call (.Name "int" p) [a] [] pos) σ H Q :=
  e_callT (C.gl hg) (by rw [C.mgl]; exact hm) (by decide +kernel) (a_cons (zE_mono h fun v H1 q => a_nil q) he) (he := he)
theorem e_sorted (C : Ctx X P w K mg base N sc k) (hm : mg "sorted" = none) (h : zE X a σ H fun v H1 => zC X (.builtin "sorted") [v] H1 Q) (hg : gloB sc "sorted" = true := by decide +kernel) (he : starEach [a] X.env = (false, eval a X.env) :: starEach [] X.env := by rfl) : zE X (.Call (.Name "sorted" p) [a] [] pos) σ H Q :=
  e_callB (C.gl hg) (by rw [C.mgl]; exact hm) (by decide +kernel) (a_cons (zE_mono h fun v H1 q => a_nil q) he) (he := he)
theorem c_lenL {l : Addr} {xs : List V} (hl : SqL X.K H l xs) (h : Q (.int (xs.length : Int)) H) : zC X (.builtin "len") [.ref l] H Q := zC_of call_len_seq ⟨l, xs, rfl, .inl hl, h⟩
theorem c_lenT {l : Addr} {xs : List V} (hl : SqT X.K H l xs) (h : Q (.int (xs.length : Int)) H) : zC X (.builtin "len") [.ref l] H Q := zC_of call_len_seq ⟨l, xs, rfl, .inr hl, h⟩
theorem c_lenS {z : Str} (hz : z.length ≤ sizeLine) (h : Q (.int (z.length : Int)) H) : zC X (.builtin "len") [.str z] H Q := zC_of call_len_str ⟨z, rfl, hz, h⟩
theorem c_int (h : Q (.int i) H) : zC X (.type "int") [.int i] H Q := zC_of call_int1 (.inl ⟨i, rfl, h⟩)
theorem c_sortedS {l : Addr} {xs : List Str} (hl : SqL X.K H l (xs.map V.str)) (hz : xs.length < 64) (h : ∀ (ys : List Str) (p : Addr) H', ys.Perm xs → PyProof.Rows.sortedS ys = true → H p = none → Ex H H' → H' p = some (.lst (ys.map V.str)) → Q (.ref p) H') :
    zC X (.builtin "sorted") [.ref l] H Q := zC_of cr_sortedS ⟨l, xs, rfl, hl, hz, fun ys p h1 h2 hp => h ys p _ h1 h2 hp (Evl.Ex.new hp) upd_same⟩
def Gs (mg : Str → Option Value) (x : Str) (z : Str) : Prop := ∃ t, mg x = some (.str z t)
def Gi (mg : Str → Option Value) (x : Str) (i : Int) : Prop := ∃ t, mg x = some (.int i t)
theorem e_gstr {x z : Str} (C : Ctx X P w K mg base N sc k) (g : Gs mg x z) (h : Q (.str z) H) (hg : gloB sc x = true := by decide +kernel) (hd : (x == ("__debug__" : Str)) = false := by decide) : zE X (.Name x pos) σ H Q := by
  obtain ⟨t, g⟩ := g
  exact e_glob (C.gl hg) (by rw [C.mgl]; exact g) (by exact ⟨t, rfl⟩) h hd
theorem e_gint {x : Str} {i : Int} (C : Ctx X P w K mg base N sc k) (g : Gi mg x i) (h : Q (.int i) H) (hg : gloB sc x = true := by decide +kernel) (hd : (x == ("__debug__" : Str)) = false := by decide) : zE X (.Name x pos) σ H Q := by
  obtain ⟨t, g⟩ := g
  exact e_glob (C.gl hg) (by rw [C.mgl]; exact g) (by exact ⟨t, rfl⟩) h hd
theorem bl_ok {k : Bool} {QT : Bool → Prop} (h : QT k) : ∃ k', V.bl k = V.bl k' ∧ QT k' := ⟨k, rfl, h⟩
theorem str_ok {z : Str} {QS : Str → Prop} (h : QS z) : ∃ z', V.str z = V.str z' ∧ QS z' := ⟨z, rfl, h⟩
theorem int_ok {QO : Int → Prop} (h : QO i) : ∃ i', V.int i = V.int i' ∧ QO i' := ⟨i, rfl, h⟩
theorem if_d {p : Prop} {_ : Decidable p} {A B : Prop} (h1 : p → A) (h2 : ¬ p → B) : if decide p = true then A else B := by
  by_cases h : p
  · rw [if_pos (decide_eq_true h)]; exact h1 h
  · rw [if_neg (by rw [decide_eq_false h]; decide)]; exact h2 h
theorem if_nd {p : Prop} {_ : Decidable p} {A B : Prop} (h1 : ¬ p → A) (h2 : p → B) : if (!decide p) = true then A else B := by
  by_cases h : p
  · rw [if_neg (by rw [decide_eq_true h]; decide)]; exact h2 h
  · rw [if_pos (by rw [decide_eq_false h]; rfl)]; exact h1 h
theorem if_b {c : Bool} {A B : Prop} (h1 : c = true → A) (h2 : c = false → B) : if c = true then A else B := by
  cases c
  · exact h2 rfl
  · exact h1 rfl
theorem if_t {A B : Prop} (h : A) : if true = true then A else B := h
theorem if_f {A B : Prop} (h : B) : if false = true then A else B := h
/-! ### methods -/
theorem e_append {o e : Expr} {apos cpos : Pos} (h : zE X o σ H fun v H1 => ∃ l u, v = .ref l ∧ H1 l = some (.lst u) ∧ zE X e σ H1 fun y H2 => ∃ xs, H2 l = some (.lst xs) ∧ xs.length < sizeLine ∧ ∀ H3, Xb l H2 H3 → H3 l = some (.lst (xs ++ [y])) → Q .non H3)
    (hp : PE X (.Call (.Attribute o "append" apos) [e] [] cpos) (tBM X.K "list" rAppend (zE X o) (zA X [e])) := by exact pe_bm PySem.F.plainAttrs_list PySem.F.slot_list_append PySem.F.type_list_append mt_append (zE_ok _) (zA_ok _))
    (he : starEach [e] X.env = (false, eval e X.env) :: starEach [] X.env := by rfl) : zE X (.Call (.Attribute o "append" apos) [e] [] cpos) σ H Q :=
  zE_of hp (zE_mono h fun v H1 ⟨l, u, e1, h0, h1⟩ => by
    subst e1
    exact ⟨Or.inl ⟨rfl, u, SqL.of h0⟩, a_cons (zE_mono h1 fun y H2 ⟨xs, g1, g2, g4⟩ => a_nil ⟨l, xs, y, rfl, rfl, g1, g2, g4 _ .upd upd_same⟩) he⟩)
theorem e_pop {o : Expr} {apos cpos : Pos} (h : zE X o σ H fun v H1 => ∃ l xs y, v = .ref l ∧ H1 l = some (.lst (xs ++ [y])) ∧ ∀ H3, Xb l H1 H3 → H3 l = some (.lst xs) → Q y H3)
    (hp : PE X (.Call (.Attribute o "pop" apos) [] [] cpos) (tBM0 X.K "list" rPop (zE X o)) := by exact pe_bm0 PySem.F.plainAttrs_list PySem.F.slot_list_pop PySem.F.type_list_pop mt_pop (zE_ok _)) : zE X (.Call (.Attribute o "pop" apos) [] [] cpos) σ H Q :=
  zE_of hp (zE_mono h fun v H1 ⟨l, xs, y, e1, h0, h1⟩ => by
    subst e1
    refine ⟨Or.inl ⟨rfl, _, SqL.of h0⟩, l, _, y, rfl, rfl, h0, by simp, ?_⟩
    rw [List.dropLast_concat]
    exact h1 _ .upd upd_same)
theorem e_join {o e : Expr} {apos cpos : Pos} (h : zE X o σ H fun v H1 => ∃ z, v = .str z ∧ zE X e σ H1 fun y H2 => ∃ l ys, y = .ref l ∧ SqL X.K H2 l (ys.map V.str) ∧ (ys.map (·.length)).sum + ys.length * z.length ≤ 16777216 ∧ Q (.str (PySem.Str.join z ys)) H2)
    (hs : starEach [e] X.env = [(false, eval e X.env)] := by rfl) (hb : attributeBase o "join" X.env (eval o X.env) = eval o X.env := by rfl) (hl : (apos.endLine == cpos.line) = true := by rfl) : zE X (.Call (.Attribute o "join" apos) [e] [] cpos) σ H Q :=
  zE_of (pe_join (zE_ok o) (zE_ok e) hs hb hl) (zE_mono h fun v H1 ⟨z, e1, h1⟩ => ⟨⟨z, e1⟩, zE_mono h1 fun y H2 ⟨l, ys, e2, h2, h3, h4⟩ => ⟨z, l, ys, e1, by rw [e2], .inl h2, h3, by rw [TL.join_eq]; exact h4⟩⟩)
/-! ### a tracked object seen otherwise -/
theorem inv_as {ps : List (Addr × Obj)} {s : Shared} {l : Addr} {o : HO} (I : Inv X ps σ H s) (mu : Mut (H l)) (ho : ∃ u, H l = some u) (new : ObjOk X.prog X.w (upd H l o) s.heap l o) : Inv X ps σ (upd H l o) s := by
  obtain ⟨u, hu⟩ := ho
  have hlt := I.hok.lt hu
  have := I.write (o := o) (x := l) (e := l) (h' := s.heap) (t' := s.toks) mu (.inl rfl) (fun _ _ _ e => e) ?_ new
  · exact this
  · have ok := I.hok l u hu
    cases hg : s.heap.get? l with
    | some v => exact ⟨v, rfl⟩
    | none =>
      exfalso
      cases u with
      | lst xs => obtain ⟨_, _, _, _, e⟩ := ok; rw [hg] at e; cases e
      | ext φ => obtain ⟨_, ⟨_, e⟩, _⟩ := ok; rw [hg] at e; cases e
      | dK kvs => obtain ⟨_, _, _, _, o, _, _, e, _⟩ := ok; rw [hg] at e; cases e
      | dT kvs => obtain ⟨_, _, _, _, o, _, _, e, _⟩ := ok; rw [hg] at e; cases e
      | set S n => obtain ⟨o, _, _, _, e, _⟩ := ok; rw [hg] at e; cases e
      | ins C dx fs => obtain ⟨_, _, _, e, _⟩ := ok; rw [hg] at e; cases e
      | tup xs => rw [hu] at mu; exact mu
      | own y => rw [hu] at mu; exact mu
      | xd fs => rw [hu] at mu; exact mu
      | met f y => rw [hu] at mu; exact mu
      | rng lo hi => rw [hu] at mu; exact mu
      | frz ob u => rw [hu] at mu; exact mu
      | tbl ps => rw [hu] at mu; exact mu
theorem upd_back {H : Hp} {l : Addr} {o : HO} (h : H l = some o) : upd H l o = H := by
  funext b
  by_cases e : b = l
  · subst e; rw [upd_same, h]
  · rw [upd_ne e]
end
end Z

namespace Z
open PySem L2
/-- which names a pair's stores are turned for, by the scope alone -/
def swShape (sc : Scope) (ts vs : List Expr) : Bool := !(ts.length == 2 || ts.length == 3) || vs.length != ts.length || (if sc.kind.isAnnotationScope then ScopeKind.function else sc.kind) != .function
def swStar (vs : List Expr) : Bool := vs.any fun | .Starred .. => true | _ => false
def swNames (sc : Scope) (ts : List Expr) : List Str := ts.filterMap fun
    | .Name id pos => if sc.names.lookup id == some .local && pos.line == (ts.head?.map (·.pos.line)).getD 0 then some id else none
    | _ => none
def swp (sc : Scope) (ts vs : List Expr) : Option (Option (List Str)) :=
  if swShape sc ts vs = true then some none else if swStar vs = true then some none
  else if ((swNames sc ts).length != ts.length || (swNames sc ts).eraseDups.length != (swNames sc ts).length) = true then some none
  else if vs.all (foldedForSure 8) = true then some none
  else if vs.all (constantsAlone 8) = true then none else some (some (swNames sc ts))
theorem swp_eq {env : Env} {ts vs : List Expr} {kt k2 pt p2} : swappedStores [.Tuple ts kt pt] (.Tuple vs k2 p2) env =
    (if swShape env.scope ts vs = true then pure none else if swStar vs = true then pure none
  else if ((swNames env.scope ts).length != ts.length || (swNames env.scope ts).eraseDups.length != (swNames env.scope ts).length) = true then pure none
  else if vs.all (foldedForSure 8) = true then pure none
  else if vs.all (constantsAlone 8) = true then (do unsupported "assign.tuple-of-constant-expressions:order-of-the-stores"; pure (some (swNames env.scope ts))) else pure (some (swNames env.scope ts))) := rfl
theorem swp_ok {env : Env} {ts vs : List Expr} {kt k2 pt p2} {o : Option (List Str)} (h : swp env.scope ts vs = some o) : swappedStores [.Tuple ts kt pt] (.Tuple vs k2 p2) env = pure o := by
  rw [swp_eq]
  unfold swp at h
  cases a : swShape env.scope ts vs <;> rw [a] at h <;> simp only [Bool.false_eq_true, if_false, if_true] at h ⊢
  case true => cases h; rfl
  cases a : swStar vs <;> rw [a] at h <;> simp only [Bool.false_eq_true, if_false, if_true] at h ⊢
  case true => cases h; rfl
  cases a : ((swNames env.scope ts).length != ts.length || (swNames env.scope ts).eraseDups.length != (swNames env.scope ts).length) <;> rw [a] at h <;> simp only [Bool.false_eq_true, if_false, if_true] at h ⊢
  case true => cases h; rfl
  cases a : vs.all (foldedForSure 8) <;> rw [a] at h <;> simp only [Bool.false_eq_true, if_false, if_true] at h ⊢
  case true => cases h; rfl
  cases a : vs.all (constantsAlone 8) <;> rw [a] at h <;> simp only [Bool.false_eq_true, if_false, if_true] at h ⊢
  · cases h; rfl
  · cases h
section
variable {X : Cx} {P : Program} {w : World} {K : PySem.W.Frag} {mg : Str → Option Value} {base : Heap} {N : List Str} {sc : Scope} {k : Nat}
variable {σ : St} {H : Hp} {nx bk ct : St → Hp → Prop} {rt : VK} {Q : VK}
theorem Ctx.sw (C : Ctx X P w K mg base N sc k) {ts vs : List Expr} {kt k2 pt p2} {o : Option (List Str)} (h : swp sc ts vs = some o) : swappedStores [.Tuple ts kt pt] (.Tuple vs k2 p2) X.env = pure o := swp_ok (by rw [C.scp]; exact h)
/-- x, y = a, b without a tuple made -/
theorem s_pair {i j : Nat} {x y : Str} {a b : Expr} {px py pt pos : Pos} {kt k2 pt2} (C : Ctx X P w K mg base N sc k) (nx' : Ns X x i) (ny : Ns X y j) (hij : i ≠ j) (hx : lclB sc x = true) (hy : lclB sc y = true)
    (hw : swp sc [.Name x px, .Name y py] [a, b] = some (some [x, y]))
    (h : zE X a σ H fun v H1 => zE X b σ H1 fun w H2 => nx ((σ.set i (some v)).set j (some w)) H2)
    (hs2 : starEach [a, b] X.env = (false, eval a X.env) :: starEach [b] X.env := by rfl) (hs1 : starEach [b] X.env = (false, eval b X.env) :: starEach [] X.env := by rfl)
    (hs : swapsWithSole [.Tuple [.Name x px, .Name y py] kt pt] (.Tuple [a, b] k2 pt2) pos.line X.env = pure false := by rfl) :
    zS X (.Assign [.Tuple [.Name x px, .Name y py] kt pt] (.Tuple [a, b] k2 pt2) pos) nx rt bk ct σ H := s_par C.calm nx' ny hij (C.lcl hx) (C.lcl hy) h hs2 hs1 (C.sw hw) hs
/-- ts = vs with a tuple made -/
theorem s_tup {ts vs : List Expr} {kt k2 pt pt2 pos} (C : Ctx X P w K mg base N sc k) (hw : swp sc ts vs = some none)
    (h : zA X vs σ H fun xs H1 => xs.length ≤ sizeLine ∧ xs.length = ts.length ∧ ∀ H2, Ex H1 H2 → zGs X ts xs σ H2 nx)
    (hn : (assignEach ts X.env).length = ts.length := by rfl) (hst : (assignEach ts X.env).findIdx? (·.1) = none := by rfl)
    (hs : swapsWithSole [.Tuple ts kt pt] (.Tuple vs k2 pt2) pos.line X.env = pure false := by rfl) (h1 : (assignEach [.Tuple ts kt pt] X.env).map (·.2) = [assign (.Tuple ts kt pt) X.env] := by rfl) :
    zS X (.Assign [.Tuple ts kt pt] (.Tuple vs k2 pt2) pos) nx rt bk ct σ H :=
  s_asg (n_tup (zA_mono h fun xs H1 ⟨h1, h2, h3⟩ => ⟨h1, fun p H' hp e hp' => g_tup C (SqT.of hp') (h3 H' e) (hn.trans h2.symm) hst⟩)) hs (C.sw hw) h1
end
end Z

/-! own errors: __init__ with super().__init__(text), then fields -/
namespace Z
open PySem L2
/-- what the written part says of an own error's class at C and its __init__ at f (closed over the cell cc, its code at cda) -/
structure ExI (P : Program) (K : PySem.W.Frag) (C f cc cda : Addr) (name qual : Str) (params : Arguments) (body : List Stmt) (scope : Scope) (fd : FuncData) : Prop where
  lk : ∃ oc od osl, K.lookup f = some ⟨oc, od, .func fd, osl⟩
  fdE : ∃ dV kV doc pm an ct, fd = PySem.W.fnX name qual params body scope [("__class__", cc)] dV kV doc pm an (.ref cda) ct
  cdI : PySem.W.codeIn K (.ref cda) qual = true
  code : ∃ ccl cdd vs ccs file tf, K.lookup cda = some ⟨ccl, cdd, .fields vs, ccs⟩ ∧ vs[2]? = some (.str file tf) ∧ ((P.main.file : Str) == file) = true
  cell : ∃ cl cld csl, K.lookup cc = some ⟨cl, cld, .cell (some (.ref C)), csl⟩
  clsI : ∃ cd, PySem.W.clsIn K C = some cd
  mro : PySem.W.mroIn K C (.ref C) = some true
  sup : PySem.W.ks_superIn K C C "__init__" = some (some (.builtin "ValueError.__init__"))
  subV : PySem.W.subIn K (.ref C) (.type "ValueError") = some true
  thr : PySem.W.nsIn K cStatics "thirdparty.any" = some none
  top : (P.main.scope.names.lookup ("super" : Str)).isSome = false
  ox : OexC K C
section
variable {X : Cx} {pins : List (Addr × Obj)} {σ : St} {H : Hp} {s : Shared} {a C f cc cda : Addr}
/-- super().__init__(text) of an error that is being made -/
theorem sup_init {name qual : Str} {params : Arguments} {body body' : List Stmt} {scope : Scope} {fd : FuncData} {E : Value → Shared → Prop} {txt : Str} {ar : Arg} {j i : Nat} {p0 p1 p2 p3 p4 : Pos} (T : ExI X.prog X.K C f cc cda name qual params body scope fd) (I : Inv X pins σ H s)
    (hsc : X.env.scope = scope) (hf : X.env.func = some f) (hcd : X.env.code = .ref cda) (hcl : X.env.cells = ([("__class__", cc)] : List (Str × Addr))) (hmg : X.mg "super" = none)
    (hks : scope.names.lookup ("super" : Str) = some .globalImplicit) (hkc : scope.names.lookup ("__class__" : Str) = some .free) (hp : (params.posonlyargs ++ params.args).head? = some ar) (hka : scope.names.lookup ar.arg = some .local)
    (hN : X.N[i]? = some ar.arg) (hσ : σ[i]? = some (some (.ref a))) (ha : H a = some (exo a C none)) {Q : Value → Shared → Prop} (h : ∀ v s', Inv X pins σ H s' → Q v s')
    {pl : Sem Bool} (he : eval (.Call (.Attribute (.Call (.Name "super" p0) [] [] p1) "__init__" p2) [.Constant (.str txt) j p3] [] p4) X.env = (do
      let ov ← attributeBase (.Call (.Name "super" p0) [] [] p1) "__init__" X.env (eval (.Call (.Name "super" p0) [] [] p1) X.env)
      standAt p2.atName
      let (f, first) ← holding [ov] (getMethod ov "__init__" pl)
      callWith p4 f first (backTo p4 (starEach [.Constant (.str txt) j p3] X.env)) [])) :
    wpAt (model X.prog X.w) X.A (.func body' X.env) (eval (.Call (.Attribute (.Call (.Name "super" p0) [] [] p1) "__init__" p2) [.Constant (.str txt) j p3] [] p4) X.env) Q E s := by
  obtain ⟨oc, od, osl, lk⟩ := T.lk
  obtain ⟨dV, kV, doc, pm, an, ct, rfl⟩ := T.fdE
  obtain ⟨ccl, cdd, vs, ccs, file, tf, lc, hvs, hfile⟩ := T.code
  obtain ⟨cl, cld, csl, lcell⟩ := T.cell
  obtain ⟨cd, hcls⟩ := T.clsI
  have hk : X.env.scope.kind = .function := I.ok.kind
  
  obtain ⟨oD, hD1, hD2⟩ : ∃ oD, s.heap.get? C = some oD ∧ oD.data = .cls cd := by
    unfold PySem.W.clsIn at hcls
    split at hcls
    · rename_i c d cd' sl ho
      cases hcls
      exact ⟨_, I.kIn _ _ ho, rfl⟩
    · cases hcls
  obtain ⟨t0, hx⟩ := exo_at I.hok ha
  obtain ⟨m, hn, hl⟩ := I.loc
  have hself : m ar.arg = some (.ref a) := by
    obtain ⟨u, r, q⟩ := hl i ar.arg (.ref a) hN hσ (.inl (by rw [hsc]; exact hka))
    obtain rfl : u = Value.ref a := r
    rcases q with ⟨_, q⟩ | ⟨q, _⟩
    · exact q
    · exfalso
      have : X.env.scope.names.lookup ar.arg = some .local := by rw [hsc]; exact hka
      rcases q with q | q
      · have q : X.env.scope.names.lookup ar.arg = some .cell := q
        rw [this] at q; cases q
      · have q : X.env.scope.names.lookup ar.arg = some .free := q
        rw [this] at q; cases q
  have kS : X.env.kindOf "super" = some .globalImplicit := by show X.env.scope.names.lookup _ = _; rw [hsc]; exact hks
  have kC : X.env.kindOf "__class__" = some .free := by show X.env.scope.names.lookup _ = _; rw [hsc]; exact hkc
  have kA : X.env.kindOf ar.arg = some .local := by show X.env.scope.names.lookup _ = _; rw [hsc]; exact hka
  refine PySem.ks_wpAt_MethodCall (pl := pl) (PySem.ks_wpAt_super_base kS kC (by decide) hf (I.kIn _ _ lk) rfl hp hcd (I.kIn _ _ lc) rfl hvs hfile T.top ?_) he
  obtain ⟨mb, h1, h2⟩ := I.mod.blt
  refine PySem.W.ks_loadName_global hk kS (Calls.loadGlobal_builtin (by rw [I.ok.glob]; exact I.mod.glob.keeps I.bk) hmg (by rw [I.ok.blt]; exact h1.keeps I.bk) ((h2 _ (by decide)).trans (by decide +kernel : bootBuiltins "super" = some (.type "super"))) ⟨rfl, ?_⟩)
  refine wpAny_loadName_free hk kC (by rw [hcl]; rfl) ⟨_, I.kIn _ _ lcell, rfl⟩ ?_
  refine wpAny_loadName_local hk kA hn hself ?_
  obtain ⟨hh, g, d, t, os⟩ := s
  refine PySem.ks_wpAny_isType_cls hD1 hD2 ⟨rfl, ?_⟩
  refine PySem.ks_wpAny_call_super hD1 hD2 hx rfl (fun c z => by cases z) (PySem.W.looks_mroIn I.kIn T.mro) (fun h' e k => ?_)
  have I1 : Inv X pins σ H ⟨h', g, d, t, os⟩ := I.kept (t' := t) k
  have xC : a ≠ C := fun z => by
    have := k _ _ hx
    have h3 := k _ _ hD1
    rw [z, h3] at this
    have := Option.some.inj this
    rw [this] at hD2
    cases hD2
  have hmro : PySem.W.Looks (model X.prog X.w) h' (mroOf (.ref C)) cd.mro := (PySem.W.looks_clsIn I1.kIn hcls).andThen .now
  have hI : PySem.W.Looks (model X.prog X.w) h' (isInstance (.ref a) (.type "ValueError")) true := PySem.W.Looks.andThen (a := .ref C) (fun A Q E s k' q => wpAny_typeOf_ref (k' _ _ (k _ _ hx)) q) (PySem.W.looks_subIn I1.kIn T.subV)
  have hsup : PySem.W.alongIn X.K "__init__" ((cd.mro.dropWhile (· != .ref C)).drop 1) = some (some (.builtin "ValueError.__init__")) := by
    have := T.sup
    unfold PySem.W.ks_superIn at this
    rw [hcls] at this
    exact this
  refine PySem.W.kxs_getMethod PySem.W.kxs_ValueError e (PySem.W.looks_opaque I1.kIn T.thr) hmro rfl I1.kIn hsup hI xC (by decide) ?_
  have k2 : ∀ b o, h'.get? b = some o → (h'.push (PySem.W.kxs_mw "ValueError.__init__" a)).get? b = some o := fun b o q => Heap.get?_push_of_some _ q
  have hu : (h'.push (PySem.W.kxs_mw "ValueError.__init__" a)).get? h'.objs.size = some (PySem.W.kxs_mw "ValueError.__init__" a) := Heap.get?_push_at rfl rfl
  have I2 : Inv X pins σ H ⟨h'.push (PySem.W.kxs_mw "ValueError.__init__" a), g, d, t + 1, os⟩ := I1.kept (t' := t + 1) k2
  refine PySem.W.kxs_callWith (i := "ValueError.__init__") (x := a) (by rfl) (Calls.evalArgs_plain ?_)
  show wpAny _ _ (spliced [(false, eval (.Constant (.str txt) j p3) X.env)]) _ _ _
  refine Calls.spliced_cons (Calls.Constant_str (Calls.spliced_nil ⟨hu, ?_⟩))
  obtain ⟨nm, q, N, bs, bm, sn, sub, ab, col, dd, k0, k1, k2', k3, k5, hC, hbm⟩ := T.ox.cls
  have hCh := I2.kIn _ _ hC
  have hxh := k2 _ _ (k _ _ hx)
  refine wpAny_call (codeAny_of_tree ?_)
  show wpAny _ X.A.in1 (callAny (.ref h'.objs.size) ⟨_, []⟩) _ _ _
  simp only [callAny]
  refine wpAny_bind (wpAny_load hu ?_)
  simp only [PySem.W.kxs_mw, show (Value.type "method-wrapper" == Value.type "method" || Value.type "method-wrapper" == Value.type "builtin_function_or_method" || Value.type "method-wrapper" == Value.type "method-wrapper") = true by decide, if_true]
  refine PySem.W.KFB.if_so (by decide) ?_
  refine wpAny_bind (PySem.W.check_bound_init F.excBase_ValueError.toExcCallFacts hCh hxh rfl ?_)
  refine wpAny_bind (wpAny_pure (wpAny_pure ?_))
  refine ⟨plainId_quiet F.excBase_ValueError.init.plain _, codeAny_builtin F.excBase_ValueError.initEntry ?_⟩
  refine PySem.W.exc_init_tree (cls := .ref C) (t0 := t0) (dv := none) (c2 := .none) (c3 := .none) (b4 := .bool false) hxh (by show 1 ≤ sizeLine; decide) fun h3 k3 hx3 ht3 => ?_
  refine h _ _ ?_
  have J := I2.write (t' := t + 1 + 1) (x := a) (e := a) (o := exo a C none) (h' := h3) (by rw [ha]; exact True.intro) (.inl rfl) k3 ⟨_, hx3⟩ (exo_ok hx3)
  rw [upd_back ha] at J
  exact J
end
section
variable {P : Program} {w : World} {K : PySem.W.Frag} {mg : Str → Option Value} {base : Heap} {N ps : List Str} {k : Nat} {C f cc cda : Addr} {fd : FuncData} {CX : CXT} {sp : Sp}
/-- an own error's __init__: super().__init__(text), then rest -/
theorem init_ok {name qual txt : Str} {params : Arguments} {body rest : List Stmt} {scope : Scope} {ar : Arg} {j : Nat} {p0 p1 p2 p3 p4 p5 : Pos} (T : ExI P K C f cc cda name qual params body scope fd) (S : NdefX.NScope N ps ["__class__"] scope) (hmg : mg "super" = none)
    (hbd : body = .Expr (.Call (.Attribute (.Call (.Name "super" p0) [] [] p1) "__init__" p2) [.Constant (.str txt) j p3] [] p4) p5 :: rest)
    {pl : Env → Sem Bool} (he : ∀ env, eval (.Call (.Attribute (.Call (.Name "super" p0) [] [] p1) "__init__" p2) [.Constant (.str txt) j p3] [] p4) env = (do
      let ov ← attributeBase (.Call (.Name "super" p0) [] [] p1) "__init__" env (eval (.Call (.Name "super" p0) [] [] p1) env)
      standAt p2.atName
      let (f, first) ← holding [ov] (getMethod ov "__init__" (pl env))
      callWith p4 f first (backTo p4 (starEach [.Constant (.str txt) j p3] env)) []))
    (hks : scope.names.lookup ("super" : Str) = some .globalImplicit) (hp : (params.posonlyargs ++ params.args).head? = some ar) (hp0 : ps.head? = some ar.arg)
    (len : ∀ vs H Q E, sp vs H Q E → vs.length = ps.length) (self : ∀ vs H Q E, sp vs H Q E → ∃ a vs', vs = .ref a :: vs' ∧ H a = some (exo a C none))
    (hb : ∀ X vs H Q E, Ctx X P w K mg base N scope k → sp vs H Q E → zB X rest (fun _ H' => Q .non H') Q (fun _ _ => False) (fun _ _ => False) (NdefX.startF N vs [some (.ref C)]) H) : FnOk P w K mg base CX (k + 1) f fd ps sp := by
  obtain ⟨oc, od, osl, lk⟩ := T.lk
  obtain ⟨dV, kV, doc, pm, an, ct, rfl⟩ := T.fdE
  obtain ⟨cl, cld, csl, lcell⟩ := T.cell
  refine ⟨len, fun A outer s H args us vs Q E hr e0 hbd' r hsp => ?_⟩
  have hl := len _ _ _ _ hsp
  have KX : K.In s.heap := e0.mod.kin.keeps fun b o e => (e0.bs b o e).1
  have lim : s.heap.NoLimit := e0.mod.nolimit.keeps fun b o e => (e0.bs b o e).1
  refine codeAny_call_function hr.depth (KX _ _ lk) rfl S.co S.gen rfl (PySem.W.codeRec_of KX T.cdI) (hbd' _ _ _ _ ?_)
  refine wpAny_newFunctionEnv S.nocell (fun ⟨n, _⟩ hy => S.par n (List.of_mem_zip hy).1) (fun h₁ hns hsb => ⟨lim.fresh _ hsb, ?_⟩) S.kind
  let FN : NdefX.NF := ⟨name, qual, params, body, scope, [("__class__", cc)], cda⟩
  show codeAny _ _ (.func body (NdefX.envF FN f s.heap.objs.size)) _ _
  have kp : ∀ b o, s.heap.get? b = some o → h₁.get? b = some o := fun b o e => hsb.extBut b o (Nat.ne_of_lt (Heap.lt_size e)) (Heap.get?_push_of_some _ e)
  have hcc : s.heap.IsCell cc (some (.ref C)) := ⟨_, KX _ _ lcell, rfl⟩
  have look : ∀ y c, (([("__class__", cc)] : List (Str × Addr)).lookup y) = some c → y = "__class__" ∧ c = cc := fun y c e => by
    by_cases h : y = "__class__"
    · subst h
      simp [List.lookup] at e
      exact ⟨rfl, e.symm⟩
    · have : (y == ("__class__" : Str)) = false := beq_eq_false_iff_ne.mpr h
      simp [List.lookup, this] at e
  have CA : NdefX.CellsAt FN.cl ["__class__"] [some (.ref C)] s.heap H := by
    refine ⟨rfl, fun y c e => ?_, fun x y c e1 e2 => ?_, fun i y hi => ?_⟩
    · obtain ⟨_, e2⟩ := look y c e
      rw [e2]
      refine ⟨?_, _, hcc⟩
      exact (e0.bs cc _ (e0.mod.kin _ _ lcell)).2
    · exact (look x c e1).1.trans (look y c e2).1.symm
    · cases i with
      | zero =>
        have hi : some ("__class__" : Str) = some y := hi
        cases hi
        refine ⟨cc, rfl, fun v hv => ?_⟩
        have hv : some (some (V.ref C)) = some (some v) := hv
        cases hv
        exact ⟨_, rfl, hcc⟩
      | succ i => cases hi
  have I : L2.Inv (NdefX.ncx CX P w K mg base N FN f A outer s H E) [] (NdefX.startF N vs [some (.ref C)]) H { s with heap := h₁, toks := s.toks + (ps.zip us).length } := NdefX.inv_startN S hr.hd e0 hl r CA hns kp
  have hN0 : N[0]? = some ar.arg := by
    have hpre := S.pre
    cases ps with
    | nil => cases hp0
    | cons p ps' =>
      have : p = ar.arg := Option.some.inj hp0
      cases N with
      | nil => simp at hpre
      | cons n N' =>
        have e : n = p := by simp at hpre; exact hpre.1
        rw [e, this]; rfl
  obtain ⟨a, vs', rfl, ha⟩ := self _ _ _ _ hsp
  have hka : scope.names.lookup ar.arg = some .local := by
    cases ps with
    | nil => cases hp0
    | cons p ps' =>
      have : p = ar.arg := Option.some.inj hp0
      rw [← this]
      exact S.par p (List.mem_cons_self ..)
  refine PySem.ks_codeAny_funcAt ?_
  have tail : ∀ s2, L2.Inv (NdefX.ncx CX P w K mg base N FN f A outer s H E) [] (NdefX.startF N (.ref a :: vs') [some (.ref C)]) H s2 →
      wpAny (model P w) (A.deeper (NdefX.envF FN f s.heap.objs.size)) (execs rest (NdefX.envF FN f s.heap.objs.size)) (fun f s' => CR CX outer P w H s Q E (.ok (.ret (match f with | .ret v => v | _ => .none))) s')
        (fun e s' => wpAny (model P w) (A.deeper (NdefX.envF FN f s.heap.objs.size)) (leaving (NdefX.envF FN f s.heap.objs.size) e) (fun _ s'' => CR CX outer P w H s Q E (.error e) s'') (fun e' s'' => CR CX outer P w H s Q E (.error e') s'') s') s2 := fun s2 J => by
    have hz := hb (NdefX.ncx CX P w K mg base N FN f A outer s H E).nox _ H Q E ⟨rfl, rfl, rfl, rfl, rfl, rfl, rfl, rfl, hr.deeper _, PassesOwn.never, S.nd⟩ hsp
    have hz := (PSs.nox (zB_ok rest)).run [] s2 _ H { nx := fun _ H' => Q .non H', rt := Q } J hz
    refine wpAny_mono hz (fun fl s' hs => ?_) fun e s' hs => hs
    have fin : ∀ {σ' : L2.St} {H' : Hp} {v : V} {u : Value}, L2.Inv (NdefX.ncx CX P w K mg base N FN f A outer s H E) [] σ' H' s' → L2.RelV v u → Q v H' → CE outer P w H s Q u s' :=
      fun {σ' H' v u} J rv q => ⟨v, H', J.os, J.bare, J.base, J.hok, rv, q⟩
    cases fl with
    | ret u => obtain ⟨v, σ', H', J, rv, q⟩ := hs; exact fin J rv q
    | next => obtain ⟨σ', H', J, q⟩ := hs; exact fin (v := V.non) (u := Value.none) J rfl q
    | brk => obtain ⟨_, _, _, q⟩ := hs; exact False.elim q
    | cont => obtain ⟨_, _, _, q⟩ := hs; exact False.elim q
  have ent : execs body (NdefX.envF FN f s.heap.objs.size) = execs (.Expr (.Call (.Attribute (.Call (.Name "super" p0) [] [] p1) "__init__" p2) [.Constant (.str txt) j p3] [] p4) p5 :: rest) (NdefX.envF FN f s.heap.objs.size) := by rw [hbd]
  rw [ent]
  refine PySem.ks_wpAt_execs_cons (PySem.ks_wpAt_Expr_any (sup_init (X := NdefX.ncx CX P w K mg base N FN f A outer s H E) (i := 0) T I rfl rfl rfl rfl hmg hks (S.frk _ (by simp)) hp hka hN0 rfl ha (fun v s2 J => wpAt_of_wpAny (tail s2 J)) (he _)) ?_)
  show (scope.kind == .module && _) = false
  rw [S.kind]
  rfl
end
end Z

/-! errors caught: clauses with tuples of classes, "as" names -/
namespace Z
open PySem L2
section
variable {M : Model} {A : Around} {s : Shared} {β α : Type} {E : Value → Shared → Prop} {Q : α → Shared → Prop} {K : PySem.W.Frag}
theorem loopA {cs : List Value} {body : Value → β → Sem (ForInStep β)} {i0 : β} {k : β → Sem α} (h : ∀ c ∈ cs, ∀ Q' : ForInStep β → Shared → Prop, Q' (.yield i0) s → wpAny M A (body c i0) Q' E s) (hk : wpAny M A (k i0) Q E s) : wpAny M A (forIn cs i0 body >>= k) Q E s := by
  induction cs with
  | nil => rw [List.forIn_nil]; exact wpAny_bind (wpAny_pure hk)
  | cons c r ih =>
    rw [List.forIn_cons, bind_assoc]
    refine wpAny_bind (h c (List.mem_cons_self ..) _ ?_)
    exact ih fun d hd => h d (List.mem_cons_of_mem _ hd)
theorem loopB {cs : List Value} {body : Value → β → Sem (ForInStep β)} {i0 i1 : β} {k : β → Sem α} (v : Value → Bool) (h : ∀ c ∈ cs, ∀ Q' : ForInStep β → Shared → Prop, Q' (if v c = true then .done i1 else .yield i0) s → wpAny M A (body c i0) Q' E s)
    (hk : wpAny M A (k (if cs.any v = true then i1 else i0)) Q E s) : wpAny M A (forIn cs i0 body >>= k) Q E s := by
  induction cs with
  | nil => rw [List.forIn_nil]; exact wpAny_bind (wpAny_pure hk)
  | cons c r ih =>
    rw [List.forIn_cons, bind_assoc]
    refine wpAny_bind (h c (List.mem_cons_self ..) _ ?_)
    rw [List.any_cons] at hk
    cases hv : v c with
    | true =>
      rw [hv] at hk
      exact wpAny_bind (wpAny_pure (by simpa using hk))
    | false =>
      rw [hv] at hk
      exact ih (fun d hd => h d (List.mem_cons_of_mem _ hd)) (by simpa using hk)
def exmV (K : PySem.W.Frag) (cls c : Value) : Bool := (PySem.W.exmOne K cls c).getD false
theorem exm_some {cls : Value} : ∀ {cs : List Value} {b : Bool}, PySem.W.exmAny K cls cs = some b → (∀ c ∈ cs, PySem.W.exmOne K cls c = some (exmV K cls c)) ∧ b = cs.any (exmV K cls)
  | [], b, h => by
    have h : some false = some b := h
    cases h
    exact ⟨fun c hc => by (cases hc), rfl⟩
  | c :: r, b, h => by
    obtain ⟨b1, d1, h1, h2, rfl⟩ := PySem.W.exmAny_cons h
    obtain ⟨h3, rfl⟩ := exm_some h2
    have e : exmV K cls c = b1 := by unfold exmV; rw [h1]; rfl
    refine ⟨fun d hd => ?_, by rw [List.any_cons, e]⟩
    rcases List.mem_cons.mp hd with rfl | hd
    · rw [h1, e]
    · exact h3 d hd
/-- a tuple of classes that an except clause names -/
theorem exm_tups {cs : List Value} {cls : Value} {tp e : Addr} {o : Obj} {n : Nat} {b : Bool} {h : Heap} (X : K.In h) (LT : PySem.W.Looks M h (typeOf (.ref e)) cls) (hp : h.get? tp = some o) (hc : o.cls = .type "tuple") (hd : o.data = .seq cs.toArray n) (hx : PySem.W.exmAny K cls cs = some b) :
    PySem.W.Looks M h (excMatches (.ref e) (.ref tp)) b := by
  intro A Q E s kk q
  obtain ⟨h1, rfl⟩ := exm_some hx
  have isT : PySem.W.Looks M h (isInstance (.ref tp) (.type "tuple")) true := PySem.W.Looks.andThen (a := .type "tuple") (fun A Q E s k q => wpAny_typeOf_ref (k _ _ hp) (by rw [hc]; exact q)) (PySem.W.Looks.of_pure isSubtype_tuple_tuple)
  have cl : ∀ c ∈ cs, PySem.W.Looks M h (isExcClass c) true ∧ PySem.W.Looks M h (isSubtype cls c) (exmV K cls c) := fun c hc => PySem.W.exm_cls X (h1 c hc)
  have hp' := kk _ _ hp
  unfold excMatches
  refine wpAny_bind (isT A _ E s kk ?_)
  dsimp only
  rw [if_pos rfl]
  refine wpAny_bind (wpAny_seqItems hp' hd ?_)
  show wpAny M A (forIn cs _ _ >>= _) Q E s
  have hcs : ((some cs.toArray).getD #[]).toList = cs := rfl
  refine loopA (fun c hm Q' q' => wpAny_bind ((cl c hm).1 A _ E s kk ?_)) ?_
  · exact wpAny_pure q'
  refine wpAny_bind (LT A _ E s kk ?_)
  refine loopB (i1 := (some true, ())) (exmV K cls) (fun c hm Q' q' => wpAny_bind ((cl c hm).2 A _ E s kk ?_)) ?_
  · cases hv : exmV K cls c with
    | true => rw [hv] at q'; exact wpAny_pure q'
    | false => rw [hv] at q'; exact wpAny_pure q'
  · rw [hcs]
    cases hv : cs.any (exmV K cls) with
    | true => rw [hv] at q; exact wpAny_pure q
    | false => rw [hv] at q; exact wpAny_pure q
end

/-! ### try: body except (..) as n: suite .. -/
/-- what is behind the suite of a clause with a name in slot i -/
def offs (i : Nat) (D : Ends) : Ends := { nx := fun σ H => D.nx (σ.set i none) H, rt := D.rt, bk := fun σ H => D.bk (σ.set i none) H, ct := fun σ H => D.ct (σ.set i none) H }
abbrev Cl := List Value × (Addr → Value → Option Addr → TS)
/-- what the clauses wish of an error of the body (slot i: the name) -/
def wishes (K : PySem.W.Frag) (i : Nat) (Wout : WX) (D : Ends) : List Cl → WX
  | [] => Wout
  | c :: r => fun cls d σ H => ∃ b, PySem.W.exmAny K cls c.1 = some b ∧ (b = true → ∀ a, H a = none → c.2 a cls d (offs i D) (σ.set i (some (.ref a))) H) ∧ (b = false → wishes K i Wout D r cls d σ H)
/-- a clause's test names the classes cs -/
def TestOk (X : Cx) (te : Expr) (cs : List Value) : Prop := ∀ (a : Addr) (oe : Obj) (pn pins : List (Addr × Obj)) (σ : St) (H : Hp) (s : Shared) (Q : Value → Shared → Prop) (E : Value → Shared → Prop), Inv (X.suite a ((a, oe) :: pn)) pins σ H s →
  (∀ v h', (∀ b o, s.heap.get? b = some o → h'.get? b = some o) → (∀ cls b, PySem.W.exmAny X.K cls cs = some b → PySem.W.Looks (model X.prog X.w) h' (typeOf (.ref a)) cls → PySem.W.Looks (model X.prog X.w) h' (excMatches (.ref a) v) b) → Q v { s with heap := h' }) →
  wpAny (model X.prog X.w) (X.A.mark (some (.ref a))) (eval te X.env) Q E s
theorem exm_one1 {cls c : Value} {b : Bool} (h : PySem.W.exmAny K cls [c] = some b) : PySem.W.exmOne K cls c = some b := by
  obtain ⟨b1, d1, h1, h2, rfl⟩ := PySem.W.exmAny_cons h
  have h2 : some false = some d1 := h2
  cases h2
  rw [h1, Bool.or_false]
section
variable {X : Cx}
theorem name_raw {x : Str} {c : Value} {np : Pos} {a : Addr} {oe : Obj} {pn pins : List (Addr × Obj)} {σ : St} {H : Hp} {s : Shared} {Q : Value → Shared → Prop} {E : Value → Shared → Prop} (hn : Names X x c) (I : Inv (X.suite a ((a, oe) :: pn)) pins σ H s) (q : Q c s) :
    wpAny (model X.prog X.w) (X.A.mark (some (.ref a))) (eval (.Name x np) X.env) Q E s := by
  obtain ⟨h1, h2, h3 | ⟨h3, h4, h5⟩⟩ := hn
  · exact ld_glob (X := X.suite a ((a, oe) :: pn)) I h1 h3 q h2
  · exact ld_blt (X := X.suite a ((a, oe) :: pn)) I h1 h3 h4 q h5 h2
theorem test_one {x : Str} {c : Value} {np : Pos} (hn : Names X x c) : TestOk X (.Name x np) [c] := fun a oe pn pins σ H s Q E I h =>
  name_raw hn I (h c s.heap (fun _ _ z => z) fun cls b hb LT => PySem.W.exm_one I.kIn LT (exm_one1 hb))
inductive NamesOk (X : Cx) : List Expr → List Value → Prop
  | nil : NamesOk X [] []
  | cons {x : Str} {c : Value} {np : Pos} {es : List Expr} {cs : List Value} (hn : Names X x c) (hs : starEach (.Name x np :: es) X.env = (false, eval (.Name x np) X.env) :: starEach es X.env) (r : NamesOk X es cs) : NamesOk X (.Name x np :: es) (c :: cs)
theorem names_raw {es : List Expr} {cs : List Value} (h : NamesOk X es cs) {pos : Pos} {a : Addr} {oe : Obj} {pn pins : List (Addr × Obj)} {σ : St} {H : Hp} {s : Shared} {E : Value → Shared → Prop} (I : Inv (X.suite a ((a, oe) :: pn)) pins σ H s) :
    ∀ {Q : List Value → Shared → Prop}, Q cs s → wpAny (model X.prog X.w) (X.A.mark (some (.ref a))) (spliced (backTo pos (starEach es X.env))) Q E s := by
  have gen : ∀ {es cs}, NamesOk X es cs → ∀ {l : List (Bool × Sem Value)}, l = starEach es X.env → ∀ {Q : List Value → Shared → Prop}, Q cs s → wpAny (model X.prog X.w) (X.A.mark (some (.ref a))) (spliced l) Q E s ∧ wpAny (model X.prog X.w) (X.A.mark (some (.ref a))) (spliced (backTo pos l)) Q E s := by
    intro es cs hk
    induction hk with
    | nil =>
      intro l hl Q q
      have e0 : starEach ([] : List Expr) X.env = [] := rfl
      rw [hl, e0]
      exact ⟨Calls.spliced_nil q, Calls.spliced_nil q⟩
    | @cons x c np es cs hn hs r ih =>
      intro l hl Q q
      rw [hl, hs]
      refine ⟨Calls.spliced_cons (name_raw hn I (ih rfl q).1), ?_⟩
      show wpAny _ _ (spliced ((false, eval (.Name x np) X.env) :: backTo pos (starEach es X.env))) _ _ _
      exact Calls.spliced_cons (name_raw hn I (ih rfl q).2)
  exact fun {Q} q => (gen h rfl q).2
theorem test_tup {es : List Expr} {cs : List Value} {kk : Nat} {pos : Pos} (h : NamesOk X es cs) (hz : cs.length ≤ sizeLine) : TestOk X (.Tuple es kk pos) cs := fun a oe pn pins σ H s Q E I q => by
  refine PyProof.Rows.Tuple_ (names_raw h I ?_)
  refine wpAny_newObj_type ?_ (by show cs.toArray.size ≤ sizeLine; rw [List.size_toArray]; exact hz)
  have kk2 : ∀ b o, s.heap.get? b = some o → (s.heap.push { cls := .type "tuple", data := .seq cs.toArray }).get? b = some o := fun b o z => Heap.get?_push_of_some _ z
  refine q _ _ kk2 fun cls b hb LT => ?_
  exact exm_tups (I.kept (t' := s.toks) kk2).kIn LT (Heap.get?_push_at rfl rfl) rfl rfl hb
inductive Hds (X : Cx) (n : Str) : List ExceptHandler → List Cl → Prop
  | nil : Hds X n [] []
  | cons {te : Expr} {cs : List Value} {ts : Addr → Value → Option Addr → TS} {b₀ : Stmt} {suite : List Stmt} {pos' : Pos} {hds : List ExceptHandler} {l : List Cl} (ht : TestOk X te cs)
      (hsu : ∀ (a : Addr) (oe : Obj) (cls : Value) (d : Option Addr) (pn : List (Addr × Obj)), Zc cls d oe → (∃ vs, oe.data = .fields vs) → PSs (X.suite a ((a, oe) :: pn)) (b₀ :: suite) (ts a cls d)) (r : Hds X n hds l) :
      Hds X n (.ExceptHandler (some te) (some n) (b₀ :: suite) pos' :: hds) ((cs, ts) :: l)
theorem fly_more {B h h' : Heap} {l : List Env} {a : Addr} {Zp : Obj → Prop} (f : PySem.HandSPX.FlyingZ B l a Zp h) (k : ∀ b o, h.get? b = some o → h'.get? b = some o) : PySem.HandSPX.FlyingZ B l a Zp h' := by
  obtain ⟨f1, f2, f3, oe, vs, T, oT, ts, x1, x2, x3, x4, x5, x6, x7, x8, x9⟩ := f
  exact ⟨fun b o z => k b o (f1 b o z), f2, f3.of_keeps fun b o z _ => ⟨o, k b o z, rfl⟩, oe, vs, T, oT, ts, k _ _ x1, x2, x3, x4, x5, x6, k _ _ x7, x8, x9⟩
theorem ps_catch {n : Str} {i : Nat} {body : List Stmt} {h₀ : ExceptHandler} {hds : List ExceptHandler} {l : List Cl} {pos : Pos} {tb : WX → TS} {Wout : WX} (hs : X.stack = X.env :: X.outer) (hf : X.env.frame = some X.env.locals) (hN : X.N.Nodup) (hi : X.N[i]? = some n) (hln : X.env.kindOf n = some .local) (tk : Takes X Wout)
    (hb : ∀ (W : WX) (pn : List (Addr × Obj)) (xe : Value → Shared → Prop), Takes (X.tr pn xe) W → PassesOwn (model X.prog X.w) X.A X.env xe → PSs (X.tr pn xe) body (tb W))
    (hh : Hds X n (h₀ :: hds) l) : PS X (.Try body (h₀ :: hds) [] [] pos) (fun D σ H => tb (wishes X.K i Wout D l) D σ H) := by
  refine ⟨fun pins s σ H D I h => ?_⟩
  have okX := I.ok
  have hfrs : X.A.frames = some (X.env :: X.outer) := by rw [okX.frames, hs]
  have hlocn : Loc X.env.scope n := .inl hln
  refine wpAny_Try_except ?_
  refine wpAny_mono ((hb (wishes X.K i Wout D l) (X.pn ++ pins) (fun e1 s1 => wpAny (model X.prog X.w) X.A (noteFrame e1 X.env) (fun _ s2 => wpAny (model X.prog X.w) X.A (setFlight e1 none) (fun _ s3 => wpAny (model X.prog X.w) X.A (handleBy e1 X.env (h₀ :: hds)) (SP X pins D) X.xe s3) X.xe s2) X.xe s1)
    (fun u s' air => ?_) PassesOwn.looking).run [] s σ H D (I.toTry _) h) (fun fl s1 hsp => ?_) (fun e1 s1 he => he)
  · obtain ⟨a, B, sI, pins1, σ1, H1, cls, d, rfl, Jt, nb, up, sky, na, os, ag, wi⟩ := air
    have J : Inv X pins σ1 H1 sI := Jt.ofTry okX
    have sky1 : Sky B (X.env :: X.outer) a (Zc cls d) X.env.locals s'.heap := by rw [← hs]; exact sky
    show wpAny (model X.prog X.w) X.A (noteFrame (.ref a) X.env) _ _ _
    refine Sky.land Zc.steady hfrs hf sky1 fun h3 fl3 up3 => ?_
    -- the clauses, one after the other; the heap grows by what the tests make
    have walk : ∀ {hds' : List ExceptHandler} {l' : List Cl}, Hds X n hds' l' → ∀ (h3 : Heap), PySem.HandSPX.FlyingZ B (X.env :: X.outer) a (Zc cls d) h3 → sI.heap.UpToSlots h3 → wishes X.K i Wout D l' cls d σ1 H1 →
        wpAny (model X.prog X.w) X.A (handleBy (.ref a) X.env hds') (SP X pins D) X.xe { s' with heap := h3 } := by
      intro hds' l' hk
      induction hk with
      | nil =>
        intro h3 fl3 up3 wi
        refine wpAny_handleBy_nil ?_
        obtain ⟨y1, y2, y3, oe, vs, T, oT, ts', he, hz, hd, h1, hr⟩ := id fl3
        unfold PySem.passOn
        refine wpAny_bind (wpAny_field he hd h1 ?_)
        rw [if_neg (show ¬ ((Value.ref T == Value.none) = true) from by simp)]
        have goes : wpAny (model X.prog X.w) X.A (setFlight (.ref a) X.env.frame) (fun _ s4 => wpAny (model X.prog X.w) X.A (throw (.ref a) : Sem Flow) (SP X pins D) X.xe s4) X.xe { s' with heap := h3 } := by
          rw [hf]
          refine PySem.HandSPX.setFlight_upZ fl3 fun h4 held up4 => wpAny_throw (tk _ _ ?_)
          exact ⟨a, B, sI, pins, σ1, H1, cls, d, rfl, J, nb, up3.trans up4, .inr (.inr (by rw [hs]; exact held)), na, os, ag, wi⟩
        exact wpAny_bind goes
      | @cons te cs ts b₀ suite pos' hds2 l2 ht hsu r ih =>
        intro h3 fl3 up3 wi
        obtain ⟨b, hb1, hyes, hno⟩ := wi
        have J3 : Inv X pins σ1 H1 { s' with heap := h3 } := J.landed nb fl3.1 up3 os ag
        obtain ⟨oe3, vs3, he3, hz3, hd3⟩ := fl3.there
        have nofr : a ∉ frs (X.env :: X.outer) := fun hm => by
          obtain ⟨_, o2, e2, hnf⟩ := fl3.2.2.1.mem hm
          rw [he3] at e2; cases e2
          exact hnf _ hd3
        have nL : a ≠ X.env.locals := fun z => nofr (List.mem_filterMap.mpr ⟨X.env, List.mem_cons_self, by rw [hf, z]⟩)
        have nF : a ∉ X.fs := fun hm => by
          obtain ⟨e2, he2, q⟩ := List.mem_filterMap.mp hm
          exact nofr (List.mem_filterMap.mpr ⟨e2, List.mem_cons_of_mem _ he2, q⟩)
        have S3 := J3.suite he3 hd3 na nL nF
        refine wpAny_handleBy_cons (codeAny_handlers_test ?_) (by intro q; cases q)
        refine ht a oe3 (X.pn ++ pins) [] σ1 H1 { s' with heap := h3 } _ _ S3 fun v h4 k4 mat => ?_
        have fl4 := fly_more fl3 k4
        have up4 : sI.heap.UpToSlots h4 := up3.trans (Heap.UpToSlots.of_keeps k4)
        have he4 := k4 _ _ he3
        have LT : PySem.W.Looks (model X.prog X.w) h4 (typeOf (.ref a)) cls := fun A Q E s k q => wpAny_typeOf_ref (k _ _ he4) (by rw [hz3.1]; exact q)
        refine (mat cls b hb1 LT).here ?_
        cases b with
        | true =>
          refine codeAny_handlers_suite_as ?_
          refine PySem.HandSPX.lands_againZ fl4 fun h5 fl5 up5 => ?_
          have J5 : Inv X pins σ1 H1 { s' with heap := h5 } := J.landed nb fl5.1 (up4.trans up5) os ag
          obtain ⟨oe5, vs5, he5, hz5, hd5⟩ := fl5.there
          have S5 := J5.suite he5 hd5 na nL nF
          refine store_ok (X := X.suite a ((a, oe5) :: (X.pn ++ pins))) (v := .ref a) S5 hN hi hlocn rfl (fun s6 S6 => ?_) (.inr hln)
          refine wpAny_mono ((hsu a oe5 cls d (X.pn ++ pins) hz5 ⟨_, hd5⟩).run [] s6 _ H1 _ S6 (hyes rfl a na)) (fun f s7 hsp => ?_) (fun _ _ z => False.elim z)
          have fin : ∀ {σ7 : St} {H7 : Hp} {Q : Shared → Prop}, Inv (X.suite a ((a, oe5) :: (X.pn ++ pins))) [] σ7 H7 s7 → (∀ s8, Inv X pins (σ7.set i none) H7 s8 → Q s8) →
              wpAny (model X.prog X.w) X.A (do bindName X.env n .none; unbindBehindTheSuite X.env n pos') (fun _ s8 => Q s8) X.xe s7 := fun {σ7 H7 Q} S7 hq => gone_ok (S7.unsuite okX) hN hi hln hq
          cases f with
          | next => obtain ⟨σ7, H7, S7, q7⟩ := hsp; exact fin S7 fun s8 J8 => ⟨_, _, J8, q7⟩
          | brk => obtain ⟨σ7, H7, S7, q7⟩ := hsp; exact fin S7 fun s8 J8 => ⟨_, _, J8, q7⟩
          | cont => obtain ⟨σ7, H7, S7, q7⟩ := hsp; exact fin S7 fun s8 J8 => ⟨_, _, J8, q7⟩
          | ret u => obtain ⟨v7, σ7, H7, S7, r7, q7⟩ := hsp; exact fin S7 fun s8 J8 => ⟨_, _, _, J8, r7, q7⟩
        | false =>
          show wpAny _ X.A (handleBy (.ref a) X.env hds2) _ _ _
          exact ih h4 fl4 up4 (hno rfl)
    exact walk hh h3 fl3 (up.trans up3) wi
  · cases fl with
    | next => obtain ⟨σ1, H1, J1, q⟩ := hsp; exact wpAny_execs_nil ⟨σ1, H1, J1.ofTry okX, q⟩
    | brk => obtain ⟨σ1, H1, J1, q⟩ := hsp; exact ⟨σ1, H1, J1.ofTry okX, q⟩
    | cont => obtain ⟨σ1, H1, J1, q⟩ := hsp; exact ⟨σ1, H1, J1.ofTry okX, q⟩
    | ret u => obtain ⟨v, σ1, H1, J1, r, q⟩ := hsp; exact ⟨v, σ1, H1, J1.ofTry okX, r, q⟩
end
end Z

/-! defs that raise; calls of them; own errors raised; a caught error's fields; a lambda handed over -/
namespace Z
open PySem L2
abbrev WE (E : XK) : WX := fun cls d _ H => E cls d H
section
variable {X : Cx} {P : Program} {w : World} {K : PySem.W.Frag} {mg : Str → Option Value} {base : Heap} {N : List Str} {sc : Scope} {k : Nat}
variable {σ : St} {H : Hp} {nx bk ct : St → Hp → Prop} {rt : VK} {Q : VK}
/-- the slots' number is known where an error flies -/
theorem takes_len {W : WX} (tk : Takes X W) : Takes X (fun cls d σ H => σ.length = X.N.length → W cls d σ H) := fun u s' ⟨a, B, sI, pins, σ, H, cls, d, e, I, nb, up, sky, na, os, ag, wi⟩ => tk u s' ⟨a, B, sI, pins, σ, H, cls, d, e, I, nb, up, sky, na, os, ag, wi I.len⟩
/-- the body of a def that may raise -/
theorem fn_okR {x : Str} {st : Stmt} {dvs : List V} {kws : List (Str × V)} {f : Addr} {fd : FuncData} {ps : List Str} {sp : Sp}
    (F : FunD K x x (defArgs st) (defBody st) (defScope st) dvs kws f fd) (S : FnScope N ps (defScope st)) (len : ∀ vs H Q E, sp vs H Q E → vs.length = ps.length)
    (body : ∀ X vs H Q E, Ctx X P w K mg base N (defScope st) k → (∀ y, X.fn y = true) → Takes X (WE E) → X.env.code = fd.code → X.env.qual = x ++ ".<locals>." → sp vs H Q E → zB X (defBody st) (fun _ H' => Q .non H') Q (fun _ _ => False) (fun _ _ => False) (start N vs) H) :
    FnOk P w K mg base (L2.CX P w) (k + 1) f fd ps sp := by
  obtain ⟨oc, od, dV, kV, doc, pm, an, cdv, ct, osl, rfl, lk, hcd, _, _⟩ := F.ex
  exact fn_of lk hcd S len fun A outer s H vs Q E hr h => ⟨_, zB_ok _, body _ vs H Q E ⟨rfl, rfl, rfl, rfl, rfl, rfl, rfl, rfl, hr, passes_of rfl, S.nd⟩ (fun _ => rfl) (takes_of rfl rfl rfl rfl) rfl rfl h⟩
/-- the body of a def that raises nothing, its code told -/
theorem fn_okC {x : Str} {st : Stmt} {dvs : List V} {kws : List (Str × V)} {f : Addr} {fd : FuncData} {ps : List Str} {sp : Sp}
    (F : FunD K x x (defArgs st) (defBody st) (defScope st) dvs kws f fd) (S : FnScope N ps (defScope st)) (len : ∀ vs H Q E, sp vs H Q E → vs.length = ps.length)
    (body : ∀ X vs H Q E, Ctx X P w K mg base N (defScope st) k → (∀ y, X.fn y = true) → X.env.code = fd.code → X.env.qual = x ++ ".<locals>." → sp vs H Q E → zB X (defBody st) (fun _ H' => Q .non H') Q (fun _ _ => False) (fun _ _ => False) (start N vs) H) :
    FnOk P w K mg base CX0 (k + 1) f fd ps sp := by
  obtain ⟨oc, od, dV, kV, doc, pm, an, cdv, ct, osl, rfl, lk, hcd, _, _⟩ := F.ex
  exact fn_of lk hcd S len fun A outer s H vs Q E hr h => ⟨_, PSs.nox (zB_ok _), body _ vs H Q E ⟨rfl, rfl, rfl, rfl, rfl, rfl, rfl, rfl, hr, PassesOwn.never, S.nd⟩ (fun _ => rfl) rfl rfl h⟩
/-- a call of a def that may raise, where its errors pass -/
theorem e_calR (C : Ctx X P w K mg base N sc k) {x : Str} {j n : Nat} {sp : Sp} {E : XK} {e : Expr} {es : List Expr} {p pos : Pos} (c : Cal P w K mg base (L2.CX P w) x j n sp) (tk : Takes X (WE E)) (hj : j ≤ k)
    (h : zA X (e :: es) σ H fun vs H1 => sp vs H1 Q E) (hg : gloB sc x = true := by decide +kernel) (hdb : (x == ("__debug__" : Str)) = false := by decide)
    (he : starEach (e :: es) X.env = (false, eval e X.env) :: starEach es X.env := by rfl) (hpl : (backTo pos (starEach es X.env)).any (·.1) = false := by rfl) : zE X (.Call (.Name x p) (e :: es) [] pos) σ H Q :=
  e_cal (E := E) C c hj (fun pins σ H s e s' I z => passes_call (W := WE E) tk (fun _ _ _ _ h => h) pins σ H s e s' I (by rw [C.prog, C.wld]; exact z)) h hg hdb he hpl
/-- .. where it raises nothing -/
theorem e_calN (C : Ctx X P w K mg base N sc k) {x : Str} {j n : Nat} {sp : Sp} {e : Expr} {es : List Expr} {p pos : Pos} (c : Cal P w K mg base (L2.CX P w) x j n sp) (hj : j ≤ k)
    (h : zA X (e :: es) σ H fun vs H1 => sp vs H1 Q E0) (hg : gloB sc x = true := by decide +kernel) (hdb : (x == ("__debug__" : Str)) = false := by decide)
    (he : starEach (e :: es) X.env = (false, eval e X.env) :: starEach es X.env := by rfl) (hpl : (backTo pos (starEach es X.env)).any (·.1) = false := by rfl) : zE X (.Call (.Name x p) (e :: es) [] pos) σ H Q :=
  e_cal (E := E0) C c hj (fun pins σ H s e s' I z => passL (X := X) pins σ H s e s' I (by rw [C.prog, C.wld]; exact z)) h hg hdb he hpl
/-- self.f = e, self an error that is being made -/
theorem s_ost {o e : Expr} {f : Str} {p' pos : Pos} (h : zE X e σ H fun y H1 => zE X o σ H1 fun x H2 => ∃ a C : Addr, x = .ref a ∧ OexC X.K C ∧ PySem.W.findIn X.K (.ref C) f = some none ∧
      ((H2 a = some (exo a C none) ∧ ∀ dx, H2 dx = none → dx ≠ a → nx σ (upd (upd H2 dx (exd dx [(f, y)])) a (exo a C (some dx)))) ∨
        ∃ (dx : Addr) (fs : List (Str × V)), H2 a = some (exo a C (some dx)) ∧ H2 dx = some (exd dx fs) ∧ fs.length ≤ 900 ∧ nx σ (upd H2 dx (exd dx ((f, y) :: fs)))))
    (hs : swapsWith e (some (.Attribute o f p')) pos.line X.env = pure false := by rfl) : zS X (.Assign [.Attribute o f p'] e pos) nx rt bk ct σ H := zS_of (ps_ost (zE_ok o) (zE_ok e) hs) h
/-- an own error's class x, at CA: made with one value, it bears the fields fld, tag -/
structure ExK (P : Program) (w : World) (K : PySem.W.Frag) (mg : Str → Option Value) (base : Heap) (x : Str) (CA : Addr) (fs : V → List (Str × V)) : Prop where
  ox : OexC K CA
  gl : mg x = some (.ref CA)
  ini : ∃ (fI : Addr) (fd : FuncData) (ps : List Str), PySem.W.findIn K (.ref CA) "__init__" = some (some (.ref fI)) ∧ PySem.W.typeIn K (.ref fI) = some (.type "function") ∧ Binds K fd ps [] ∧
    FnOk P w K mg base CX0 1 fI fd ps (fun vs H Q _ => ∃ a y, vs = [.ref a, y] ∧ H a = some (exo a CA none) ∧ ∀ dx, H dx = none → dx ≠ a → Q .non (upd (upd H dx (exd dx (fs y))) a (exo a CA (some dx))))
/-- raise x(e) -/
theorem s_raise {x : Str} {CA : Addr} {fs : V → List (Str × V)} {W : WX} {e : Expr} {p pos pos' : Pos} (C : Ctx X P w K mg base N sc k) (xk : ExK P w K mg base x CA fs) (tk : Takes X W) (hk : 2 ≤ k)
    (h : zE X e σ H fun v H1 => ∀ d, H1 d = none → W (.ref CA) (some d) σ (upd H1 d (.xd (fs v)))) (hg : gloB sc x = true := by decide +kernel) (hdb : (x == ("__debug__" : Str)) = false := by decide)
    (he : starEach [e] X.env = (false, eval e X.env) :: starEach [] X.env := by rfl) (hpl : (backTo pos (starEach [] X.env)).any (·.1) = false := by rfl) : zS X (.Raise (some (.Call (.Name x p) [e] [] pos)) none pos') nx rt bk ct σ H := by
  obtain ⟨fI, fd, ps, h1, h2, h3, F⟩ := xk.ini
  have hgl := C.gl hg
  obtain ⟨rfl, rfl, rfl, rfl, rfl, rfl, rfl, hc, hr, _, _⟩ := C
  refine zS_of (ps_raise hc tk (pmk_oex xk.ox h1 h2 F (hr.mono hk) h3 .nil pass0' hgl xk.gl (zA_ok [e]) hdb he hpl)) ?_
  refine a_cons (zE_mono h fun v H1 q => a_nil ?_) he
  refine ⟨by show 1 ≤ 1000; decide, fun a ha => ⟨a, v, rfl, upd_same, fun dx hd hda => ⟨rfl, dx, fs v, upd_same, ?_, ?_, ?_⟩⟩⟩
  · rw [upd_ne hda, upd_same]
  · rw [upd_ne hda] at hd; exact hd
  · have hd' : H1 dx = none := by rw [upd_ne hda] at hd; exact hd
    have e1 : upd (del (upd (upd (upd H1 a (exo a CA none)) dx (exd dx (fs v))) a (exo a CA (some dx))) a) dx (.xd (fs v)) = upd H1 dx (.xd (fs v)) := by
      funext b
      by_cases hb : b = dx
      · subst hb; rw [upd_same, upd_same]
      · rw [upd_ne hb, upd_ne hb]
        by_cases hba : b = a
        · subst hba; rw [del_same, ha]
        · rw [del_ne hba, upd_ne hba, upd_ne hb, upd_ne hba]
    rw [e1]
    exact q dx hd'
where pass0' {X : Cx} {E : XK} : Passes CX0 X E := fun _ _ _ _ _ _ _ h => h.elim
/-- e.f of the caught error a -/
theorem e_xf {a CA : Addr} {oe : Obj} {cls : Value} {d : Option Addr} {pn : List (Addr × Obj)} {e : Expr} {pos : Pos} {f : Str} (T : XfC X.K CA) (hno : PySem.W.findIn X.K (.ref CA) f = some none) (hz : Zc cls d oe) (hf : ∃ vs, oe.data = .fields vs)
    (h : zE (X.suite a ((a, oe) :: pn)) e σ H fun x H1 => x = .ref a ∧ cls = .ref CA ∧ ∃ (dd : Addr) (fs : List (Str × V)) (v : V), d = some dd ∧ H1 dd = some (.xd fs) ∧ fs.lookup f = some v ∧ Q v H1)
    (hb : attributeBase e f X.env (eval e X.env) = eval e X.env := by rfl) : zE (X.suite a ((a, oe) :: pn)) (.Attribute e f pos) σ H Q := zE_of (pe_xf T hno hz hf (zE_ok e) hb) h
end
/-! ### a lambda handed to a def -/
/-- a body's reading, whatever the context -/
def zL (P : Program) (w : World) (K : PySem.W.Frag) (mg : Str → Option Value) (base : Heap) (N : List Str) (sc : Scope) (k : Nat) (e : Expr) (E : XK) : TE := fun σ H Q => ∀ X, Ctx X P w K mg base N sc k → Takes X (WE E) → zE X e σ H Q
/-- what is known where a def with lambdas runs: its code object c, the table T of its code objects -/
structure LamT (X : Cx) (c T : Addr) : Prop where
  tb : LamX.TabB X.base X.mg c T
  code : X.env.code = .ref c
/-- the def that gets a lambda: TT is what it makes of the lambda's reading -/
structure Gets (P : Program) (w : World) (K : PySem.W.Frag) (mg : Str → Option Value) (base : Heap) (x : Str) (j : Nat) (TT : (XK → Hp → VK → Prop) → Hp → VK → Prop) : Prop where
  ex : ∃ (g : Addr) (fd : FuncData) (pg : Arguments) (bg : List Stmt) (sg : Scope) (a : Str) (Ng : List Str), FunD K x x pg bg sg [] [] g fd ∧ mg x = some (.ref g) ∧ Binds K fd [a] [] ∧ FnScope Ng [a] sg ∧ Ng[0]? = some a ∧ Vis sg a ∧ (a == ("__debug__" : Str)) = false ∧ (a == ("__classdict__" : Str)) = false ∧
    ∀ X : Cx, X.prog = P → X.w = w → X.K = K → X.mg = mg → X.base = base → Room (j + 1) X.A → ∀ (cdv : Value) (q : Str), LamX.GivesTo X Ng x sg g cdv bg a q TT
theorem e_lam {X : Cx} {P : Program} {w : World} {K : PySem.W.Frag} {mg : Str → Option Value} {base : Heap} {N : List Str} {sc : Scope} {k j : Nat} {σ : St} {H : Hp} {Q : VK} {c T : Addr} {x : Str} {TT : (XK → Hp → VK → Prop) → Hp → VK → Prop} {params : Arguments} {body : Expr} {scope : Scope} {p lpos pos : Pos}
    (C : Ctx X P w K mg base N sc k) (L : LamT X c T) (G : Gets P w K mg base x j TT) (hj : j + 2 ≤ k) (hl : LamX.lamSB sc scope = true) (hT : LamX.Tabs [(T, X.env.qual ++ "<lambda>")] H)
    (h : ∀ H1, LamX.ExtN H H1 → LamX.Tabs [(T, X.env.qual ++ "<lambda>")] H1 → TT (fun E H' Q' => zL P w K mg base N scope j body E σ H' Q') H1 Q)
    (hdef : defaultsOf params X.env = ([], []) := by rfl)
    (hbind : ∀ (q : Str) (cl : List (Str × Addr)) (pm cv ctv : Value), bindArgs (PySem.W.kla_fn "<lambda>" q params body scope cl pm cv ctv) ⟨[], []⟩ = pure [] := by intros; rfl)
    (hg : gloB sc x = true := by decide +kernel) (hdb : (x == ("__debug__" : Str)) = false := by decide) : zE X (.Call (.Name x p) [.Lambda params body scope lpos] [] pos) σ H Q := by
  obtain ⟨g, fd, pg, bg, sg, a, Ng, F, gm, hb, S, hN, hv, hd, hcd, GT⟩ := G.ex
  obtain ⟨oc, od, dV, kV, doc, pm, an, cdv, ct, osl, rfl, lk, hcg, _, _⟩ := F.ex
  have hgl := C.gl hg
  obtain ⟨rfl, rfl, rfl, rfl, rfl, rfl, rfl, hc, hr, _, nd⟩ := C
  refine zE_of (LamX.pe_lamcall (T := [(T, X.env.qual ++ "<lambda>")]) (t := fun E => zL X.prog X.w X.K X.mg X.base X.N scope j body E) hgl gm F.kp lk hcg hb S hN hv (GT X rfl rfl rfl rfl rfl (hr.mono (by omega)) cdv _) L.tb L.code (List.mem_singleton.mpr rfl)
    (fun p hp _ => by rw [List.mem_singleton.mp hp]) (hr.mono hj) (LamX.lamS_by hl) hdef hbind (fun A outer s H E f c' hr2 => ?_) hdb hd hcd) ⟨hT, h⟩
  refine ⟨fun pins s' σ' H' Q' I q => (zE_ok body).run pins s' σ' H' Q' I (q _ ⟨rfl, rfl, rfl, rfl, rfl, rfl, rfl, rfl, hr2, passes_of rfl, nd⟩ (takes_of rfl rfl rfl rfl))⟩
end Z

/-! isinstance, all, any, sum, min, max, zip -/
namespace Z
open PySem L2
/-- the kinds of data, and which is which -/
def kinds : List String := ["NoneType", "bool", "int", "str", "list", "tuple"]
def subT (T U : String) : Bool := T == U || (T == "bool" && U == "int")
theorem kit_sub {K : PySem.W.Frag} {T U : String} (hT : T ∈ kinds) (hU : U ∈ ["bool", "int", "str", "list", "tuple"]) : PySem.W.kitOne K (.type T) (.type U) = some (subT T U) := by
  simp only [kinds, List.mem_cons, List.not_mem_nil, or_false] at hT hU
  rcases hT with rfl | rfl | rfl | rfl | rfl | rfl <;> rcases hU with rfl | rfl | rfl | rfl | rfl <;> kernel_rfl
section
variable {X : Cx} {P : Program} {w : World} {K : PySem.W.Frag} {mg : Str → Option Value} {base : Heap} {N : List Str} {sc : Scope} {k : Nat}
variable {σ : St} {H : Hp} {Q : VK} {R : It → Hp → Prop} {a b : Expr} {p p2 pos tpos : Pos} {U : Str} {u : String} {elts : List Expr} {kk : Nat}
theorem e_bltn {x : Str} {v : V} {u : Value} (hg : Gl X x) (hm : X.mg x = none) (hv : bootBuiltins x = some u) (r : RelV v u) (h : Q v H) (hn : x ≠ "__name__" := by decide) (hd : (x == ("__debug__" : Str)) = false := by decide) : zE X (.Name x pos) σ H Q := zE_of (pe_bltn hg hm hv r hn hd) h
/-- isinstance(a, U), U a built-in kind -/
theorem e_isi (C : Ctx X P w K mg base N sc k) (hm : mg "isinstance" = none) (hU : mg (Str.ofString u) = none) (h : zE X a σ H fun v H1 => ∃ T, TyX X.K H1 v (.type T) ∧ T ∈ kinds ∧ Q (.bl (subT T u)) H1) (hu : u ∈ ["bool", "int", "str", "list", "tuple"] := by decide) (hv : bootBuiltins (Str.ofString u) = some (.type u) := by decide +kernel)
    (hg : gloB sc "isinstance" = true := by decide +kernel) (hg2 : gloB sc (Str.ofString u) = true := by decide +kernel) (hn : Str.ofString u ≠ "__name__" := by decide) (hd : (Str.ofString u == ("__debug__" : Str)) = false := by decide)
    (he : starEach [a, .Name (Str.ofString u) p2] X.env = (false, eval a X.env) :: starEach [.Name (Str.ofString u) p2] X.env := by rfl) (he2 : starEach [.Name (Str.ofString u) p2] X.env = (false, eval (.Name (Str.ofString u) p2) X.env) :: starEach [] X.env := by rfl) (hpl : (backTo pos (starEach [.Name (Str.ofString u) p2] X.env)).any (·.1) = false := by rfl) :
    zE X (.Call (.Name "isinstance" p) [a, .Name (Str.ofString u) p2] [] pos) σ H Q := by
  refine e_callB (C.gl hg) (by rw [C.mgl]; exact hm) (by decide +kernel : bootBuiltins "isinstance" = some (.builtin "isinstance")) (a_cons (zE_mono h fun v H1 ⟨T, h1, h2, h3⟩ => a_cons (e_bltn (C.gl hg2) (by rw [C.mgl]; exact hU) hv (v := .ty u) rfl (a_nil ?_) hn hd) he2) he) (he := he) (hpl := hpl)
  exact zC_of call_isi ⟨v, .ty u, .type T, .type u, _, rfl, .ty u, h1, kit_sub h2 hu, h3⟩
theorem ty_non {R : String → Prop} (h : R "NoneType") : ∃ T, TyX K H .non (.type T) ∧ T ∈ kinds ∧ R T := ⟨"NoneType", .base .non, by decide, h⟩
theorem ty_bl {x : Bool} {R : String → Prop} (h : R "bool") : ∃ T, TyX K H (.bl x) (.type T) ∧ T ∈ kinds ∧ R T := ⟨"bool", .base (.bl x), by decide, h⟩
theorem ty_int {x : Int} {R : String → Prop} (h : R "int") : ∃ T, TyX K H (.int x) (.type T) ∧ T ∈ kinds ∧ R T := ⟨"int", .base (.int x), by decide, h⟩
theorem ty_str {x : Str} {R : String → Prop} (h : R "str") : ∃ T, TyX K H (.str x) (.type T) ∧ T ∈ kinds ∧ R T := ⟨"str", .base (.str x), by decide, h⟩
theorem ty_lst {x : Addr} {xs : List V} (hx : H x = some (.lst xs)) {R : String → Prop} (h : R "list") : ∃ T, TyX K H (.ref x) (.type T) ∧ T ∈ kinds ∧ R T := ⟨"list", .base (.lst hx), by decide, h⟩
theorem ty_tup {x : Addr} {xs : List V} (hx : H x = some (.tup xs)) {R : String → Prop} (h : R "tuple") : ∃ T, TyX K H (.ref x) (.type T) ∧ T ∈ kinds ∧ R T := ⟨"tuple", .base (.tup hx), by decide, h⟩
theorem if_ct {c : Bool} {A B : Prop} (hc : c = true) (h : A) : if c = true then A else B := by rw [if_pos hc]; exact h
theorem if_cf {c : Bool} {A B : Prop} (hc : c = false) (h : B) : if c = true then A else B := by rw [if_neg (by rw [hc]; decide)]; exact h
/-- a def that may be called -/
theorem cal_of {CX : CXT} {x : Str} {st : Stmt} {f : Addr} {fd : FuncData} {ps : List Str} {sp : Sp} {j : Nat} (F : FunD K x x (defArgs st) (defBody st) (defScope st) [] [] f fd) (ok : FnOk P w K mg base CX j f fd ps sp) (gm : mg x = some (.ref f))
    (hb : ∀ (kV doc pm : Value) (an : Option Addr) (cdv ct : Value) (us : List Value), us.length = ps.length → bindArgs (PySem.W.fnOf x x (defArgs st) (defBody st) (defScope st) .none kV doc pm an cdv ct) ⟨us, []⟩ = pure (ps.zip us)) : Cal P w K mg base CX x j ps.length sp :=
  ⟨f, fd, ps, ok, gm, F.kp, F.bindsN hb, rfl⟩
/-- a built-in of one value, by name -/
theorem e_b1 {x : Str} {id : String} (C : Ctx X P w K mg base N sc k) (hm : mg x = none) (hv : bootBuiltins x = some (.builtin id)) (h : zE X a σ H fun v H1 => zC X (.builtin id) [v] H1 Q) (hg : gloB sc x = true := by decide +kernel) (hn : x ≠ "__name__" := by decide) (hdb : (x == ("__debug__" : Str)) = false := by decide)
    (he : starEach [a] X.env = (false, eval a X.env) :: starEach [] X.env := by rfl) : zE X (.Call (.Name x p) [a] [] pos) σ H Q :=
  e_callB (C.gl hg) (by rw [C.mgl]; exact hm) hv (a_cons (zE_mono h fun v H1 q => a_nil q) he) hn hdb (he := he)
theorem e_all (C : Ctx X P w K mg base N sc k) (hm : mg "all" = none) (h : zE X a σ H fun v H1 => zC X (.builtin "all") [v] H1 Q) (hg : gloB sc "all" = true := by decide +kernel) (he : starEach [a] X.env = (false, eval a X.env) :: starEach [] X.env := by rfl) : zE X (.Call (.Name "all" p) [a] [] pos) σ H Q := e_b1 C hm (by decide +kernel) h hg (by decide) (by decide) he
theorem e_any (C : Ctx X P w K mg base N sc k) (hm : mg "any" = none) (h : zE X a σ H fun v H1 => zC X (.builtin "any") [v] H1 Q) (hg : gloB sc "any" = true := by decide +kernel) (he : starEach [a] X.env = (false, eval a X.env) :: starEach [] X.env := by rfl) : zE X (.Call (.Name "any" p) [a] [] pos) σ H Q := e_b1 C hm (by decide +kernel) h hg (by decide) (by decide) he
theorem e_sum (C : Ctx X P w K mg base N sc k) (hm : mg "sum" = none) (h : zE X a σ H fun v H1 => zC X (.builtin "sum") [v] H1 Q) (hg : gloB sc "sum" = true := by decide +kernel) (he : starEach [a] X.env = (false, eval a X.env) :: starEach [] X.env := by rfl) : zE X (.Call (.Name "sum" p) [a] [] pos) σ H Q := e_b1 C hm (by decide +kernel) h hg (by decide) (by decide) he
theorem e_min (C : Ctx X P w K mg base N sc k) (hm : mg "min" = none) (h : zE X a σ H fun v H1 => zC X (.builtin "min") [v] H1 Q) (hg : gloB sc "min" = true := by decide +kernel) (he : starEach [a] X.env = (false, eval a X.env) :: starEach [] X.env := by rfl) : zE X (.Call (.Name "min" p) [a] [] pos) σ H Q := e_b1 C hm (by decide +kernel) h hg (by decide) (by decide) he
theorem e_max (C : Ctx X P w K mg base N sc k) (hm : mg "max" = none) (h : zE X a σ H fun v H1 => zC X (.builtin "max") [v] H1 Q) (hg : gloB sc "max" = true := by decide +kernel) (he : starEach [a] X.env = (false, eval a X.env) :: starEach [] X.env := by rfl) : zE X (.Call (.Name "max" p) [a] [] pos) σ H Q := e_b1 C hm (by decide +kernel) h hg (by decide) (by decide) he
theorem c_all {l : Addr} {bs : List Bool} (hc : X.calm = true) (hl : SqL X.K H l (bs.map V.bl)) (h : Q (.bl (bs.all id)) H) : zC X (.builtin "all") [.ref l] H Q := zC_of (cr_all hc) ⟨l, bs, rfl, hl, h⟩
theorem c_any {l : Addr} {bs : List Bool} (hc : X.calm = true) (hl : SqL X.K H l (bs.map V.bl)) (h : Q (.bl (bs.any id)) H) : zC X (.builtin "any") [.ref l] H Q := zC_of (cr_any hc) ⟨l, bs, rfl, hl, h⟩
theorem c_sum {l : Addr} {ns : List Int} (hc : X.calm = true) (hl : SqL X.K H l (ns.map V.int)) (h : Q (.int ns.sum) H) : zC X (.builtin "sum") [.ref l] H Q := zC_of (cr_sum hc) ⟨l, ns, rfl, hl, h⟩
theorem c_max {l : Addr} {ns : List Int} (hc : X.calm = true) (hl : SqL X.K H l (ns.map V.int)) (h0 : ns ≠ []) (h : ∀ m, m ∈ ns → (∀ y, y ∈ ns → y ≤ m) → Q (.int m) H) : zC X (.builtin "max") [.ref l] H Q := zC_of (cr_max hc) ⟨l, ns, rfl, hl, List.length_pos_iff.mpr h0, h⟩
theorem c_min {l : Addr} {ns : List Int} (hc : X.calm = true) (hl : SqL X.K H l (ns.map V.int)) (h0 : ns ≠ []) (h : ∀ m, m ∈ ns → (∀ y, y ∈ ns → m ≤ y) → Q (.int m) H) : zC X (.builtin "min") [.ref l] H Q := zC_of (cr_min hc) ⟨l, ns, rfl, hl, List.length_pos_iff.mpr h0, h⟩
/-- zip of two lists, of two tuples -/
theorem i_zip {b : Expr} (C : Ctx X P w K mg base N sc k) (hm : mg "zip" = none) (h : zE X a σ H fun x H1 => zE X b σ H1 fun y H2 => ∃ i j xs ys, x = .ref i ∧ y = .ref j ∧ ((SqL X.K H2 i xs ∧ SqL X.K H2 j ys ∧ R (Itz X.K i j) H2) ∨ (SqT X.K H2 i xs ∧ SqT X.K H2 j ys ∧ R (RZ.ItzT X.K i j) H2))) (hg : gloB sc "zip" = true := by decide +kernel)
    (hs : starEach [a, b] X.env = (false, eval a X.env) :: starEach [b] X.env := by rfl) (hs2 : starEach [b] X.env = (false, eval b X.env) :: starEach [] X.env := by rfl) (hpl : (backTo pos (starEach [b] X.env)).any (·.1) = false := by rfl) :
    zI X (.Tuple elts kk tpos) (.Call (.Name "zip" p) [a, b] [] pos) σ H R :=
  zI_of (RZ.pi_zipA (C.gl hg) (by rw [C.mgl]; exact hm) (zA_ok [a, b]) hs hpl) (a_cons (zE_mono h fun x H1 h1 => a_cons (zE_mono h1 fun y H2 ⟨i, j, xs, ys, e1, e2, h2⟩ => a_nil ⟨i, j, xs, ys, by rw [e1, e2], h2⟩) hs2) hs)
/-- == and != of data of any depth -/
theorem o_eqD {x y : V} {d e : PyData} (C : Ctx X P w K mg base N sc k) (hd : Dp X.K H x d) (he : Dp X.K H y e) (sd : SeqAt.shaped d = true) (se : SeqAt.shaped e = true) (h : Q (.bl (PyData.eqv d e)) H) : zO X (compareOp .Eq) x y H Q := zO_of (op_eqD C.room.units) ⟨d, e, hd, he, sd, se, h⟩
theorem o_neD {x y : V} {d e : PyData} (C : Ctx X P w K mg base N sc k) (hd : Dp X.K H x d) (he : Dp X.K H y e) (sd : SeqAt.shaped d = true) (se : SeqAt.shaped e = true) (h : Q (.bl (!PyData.eqv d e)) H) : zO X (compareOp .NotEq) x y H Q := zO_of (op_neD C.room.units) ⟨d, e, hd, he, sd, se, h⟩
theorem dp_pair {t : Addr} {a b : V} {d e : PyData} (h : H t = some (.tup [a, b])) (h1 : Dp K H a d) (h2 : Dp K H b e) : Dp K H (.ref t) (.tuple [d, e]) := .tup (SqT.of h) (.cons h1 (.cons h2 .nil))
theorem dp_strs : ∀ {zs : List Str}, DpAll K H (zs.map V.str) (zs.map PyData.str)
  | [] => .nil
  | z :: zs => .cons (.str z) dp_strs
theorem dp_ints : ∀ {zs : List Int}, DpAll K H (zs.map V.int) (zs.map PyData.int)
  | [] => .nil
  | z :: zs => .cons (.int z) dp_ints
end
section
variable {X : Cx} {P : Program} {w : World} {K : PySem.W.Frag} {mg : Str → Option Value} {base : Heap} {N : List Str} {sc : Scope} {k : Nat} {σ : St} {H : Hp}
/-- [elt for x in it], of each item only R known -/
theorem comp_all {x : Str} {j : Nat} {px : Pos} {elt : Expr} {scope : Scope} {own : List Nat} {n : Nat} {S : Hp → Prop} {Y : Nat → V → Hp → Prop} (C : Ctx X P w K mg base N sc k) (R : V → Prop) (hn : n ≤ 100000) (hsrc : ∀ H', Ex H H' → S H')
    (h1 : N[j]? = some x) (h2 : lclB (relS scope sc) x = true) (hw : ∀ v, wipe ((wipe σ own).set j (some v)) own = wipe σ own)
    (he : ∀ i v H', i < n → Ex H H' → Y i v H' → ∀ X1, Ctx X1 P w K mg base N (relS scope sc) k → zE X1 elt ((wipe σ own).set j (some v)) H' fun y H4 => Ex H' H4 ∧ R y) :
    Comp X (.Name x px) elt [] scope own σ H n S Y (fun _ i ys _ => ys.length = i ∧ ∀ y ∈ ys, R y) where
  small := hn
  start := fun _ _ _ _ => ⟨rfl, fun _ z => by cases z⟩
  src := hsrc
  keep := fun _ _ _ _ _ _ h => h
  len := fun _ i ys _ h => by rw [h.1]; exact Nat.le_refl _
  turn := fun D i v ys H' hi hD e1 hl ha hy => gb_intro C fun X1 C1 => g_name (C1.ns h1 (by unfold locB; unfold lclB at h2; rw [h2]; rfl) (.inr h2)) ⟨hw v, Evl.Ex.refl _, fun _ _ _ _ _ => ts_nil ⟨Evl.Ex.refl _, if_pos rfl ▸ eb_intro C fun X2 C2 =>
    zE_mono (he i v H' hi e1 hy X2 C2) fun y H4 ⟨e4, q⟩ => ⟨e4, by rw [List.length_append, ha.1]; rfl, fun y' hy' => by
      rcases List.mem_append.mp hy' with z | z
      · exact ha.2 y' z
      · rw [List.mem_singleton.mp z]; exact q⟩⟩⟩
end
end Z

/-! the head: what is looked at tells -/
namespace Z
open PySem L2
theorem oexB_ok {K : PySem.W.Frag} {C : Addr} (h : oexB K C = true) : ∃ nm q N bs bm sn sub ab col dd k0 k1 k2 k3 k5, K.lookup C = some (excClassObj nm q C N bs bm true sn sub ab col dd k0 k1 k2 k3 k5 "ValueError.__new__") ∧ PySem.HandSPX.refsVE bm = true := by
  unfold oexB at h
  split at h
  · rename_i T dd cd sl ho
    split at h
    · rename_i C' bm k0 k1 k2 k3 n k5 hm hs
      simp only [Bool.and_eq_true, decide_eq_true_eq, Bool.not_eq_true'] at h
      obtain ⟨rfl, rfl, rfl, hdel, hdct, hr⟩ := h
      obtain ⟨nm, bs, mro, ns, qn, hd, sn, sub, ab, col, del⟩ := cd
      dsimp only at hm hdel hdct
      subst hm hdel hdct
      have hsl : sl = #[k0, k1, k2, k3, some (.builtin "ValueError.__new__"), k5] := by
        obtain ⟨l⟩ := sl
        simp only at hs
        rw [hs]
      subst hsl
      exact ⟨nm, qn, ns, bs, bm, sn, sub, ab, col, dd, k0, k1, k2, k3, k5, ho, hr⟩
    · cases h
  · cases h
theorem oxB_ok {K : PySem.W.Frag} {C : Addr} (h : oxB K C = true) : OexC K C := by
  obtain ⟨h1, h⟩ := He.ba h
  obtain ⟨h2, h⟩ := He.ba h
  obtain ⟨h3, h⟩ := He.ba h
  obtain ⟨h4, h5⟩ := He.ba h
  exact ⟨oexB_ok h1, He.eqO_ok h2, of_decide_eq_true h3, of_decide_eq_true h4, h5⟩
theorem exiB_ok {P : Program} {K : PySem.W.Frag} {x : Str} {st : Stmt} (e : fnC K x = valC x st) (h : exiB P K x = true) (ht : (P.main.scope.names.lookup ("super" : Str)).isSome = false) :
    ∃ cc cda fd, ExI P K (cA K x) (iA K x) cc cda "__init__" (x ++ ".__init__") (defArgs st) (defBody st) (defScope st) fd ∧ fd.defaults = .none ∧ PySem.W.findIn K (.ref (cA K x)) "__init__" = some (some (.ref (iA K x))) ∧ PySem.W.typeIn K (.ref (iA K x)) = some (.type "function") := by
  obtain ⟨h1, h⟩ := He.ba h
  obtain ⟨h2, h⟩ := He.ba h
  obtain ⟨h3, h⟩ := He.ba h
  obtain ⟨h4, h⟩ := He.ba h
  obtain ⟨h5, h⟩ := He.ba h
  obtain ⟨h6, h⟩ := He.ba h
  obtain ⟨h7, h⟩ := He.ba h
  obtain ⟨h8, h9⟩ := He.ba h
  unfold cdB at h2
  unfold fnC at e
  split at h2
  · rename_i oc od fd osl lk
    rw [lk] at e
    split at h2
    · rename_i cda nm cc hd hc hcl
      obtain ⟨g1, h2⟩ := He.ba h2
      obtain ⟨g2, g3⟩ := He.ba h2
      split at g2
      · rename_i cl cld D csl lcell
        have eD := of_decide_eq_true g2
        subst eD
        split at g3
        · rename_i ccl cdd vs ccs lcode
          split at g3
          · rename_i file tf hvs
            obtain ⟨n1, n2, n3, n4, n5, n6, n7, n8, n9, n10, n11, n12, n13, n14, n15⟩ := fd
            have e2 : (some (n1, n2, n3, n4, n5, n6, n7.map (·.1), n15) : FnC) = valC x st := e
            unfold valC at e2
            simp only [Option.some.injEq, Prod.mk.injEq] at e2
            dsimp only at hd hc hcl
            subst hd hc hcl
            obtain ⟨q1, q2, q3, q4, q5, q6, q7, q8⟩ := e2
            have q7 : ([nm] : List Str) = [("__class__" : Str)] := q7
            have q7 : nm = "__class__" := (List.cons.inj q7).1
            subst q1 q2 q3 q4 q5 q6 q7 q8
            exact ⟨cc, cda, _, ⟨⟨oc, od, osl, lk⟩, ⟨_, _, _, _, _, _, rfl⟩, g1, ⟨ccl, cdd, vs, ccs, file, tf, lcode, hvs, g3⟩, ⟨cl, cld, csl, lcell⟩, Option.isSome_iff_exists.mp h3, of_decide_eq_true h4, He.eqO_ok h5, of_decide_eq_true h6, He.eqO_ok h7, ht, oxB_ok h1⟩, rfl, He.eqO_ok h8, of_decide_eq_true h9⟩
          · cases g3
        · cases g3
      · cases g2
    · cases h2
  · cases h2
theorem propB_ok {K : PySem.W.Frag} {C y q : Str} {st : Stmt} (e : fnE K (.prop C y q st) = valE (.prop C y q st)) (h : propB K C y q = true) :
    ∃ p fd, PropOf K (He.ga K C) y p (gA K C y) ∧ FunD K y q (defArgs st) (defBody st) (defScope st) [] [] (gA K C y) fd := by
  obtain ⟨h1, h⟩ := He.ba h
  obtain ⟨h2, h⟩ := He.ba h
  obtain ⟨h3, h⟩ := He.ba h
  obtain ⟨h4, h⟩ := He.ba h
  obtain ⟨h5, h6⟩ := He.ba h
  refine ⟨He.ma K (He.ga K C) y, ?_⟩
  have hp : PropOf K (He.ga K C) y (He.ma K (He.ga K C) y) (gA K C y) := by
    refine ⟨He.eqO_ok h1, He.eqO_ok h2, of_decide_eq_true h3, ?_⟩
    unfold gA
    split at h4
    · rename_i g rest hg
      rw [hg]
      exact ⟨rest, rfl⟩
    · cases h4
  have e : fnG K C y = some (y, q, defArgs st, .stmts (defBody st), defScope st, mainGlobals, [], builtinsNs) := e
  unfold fnG at e
  cases lk : K.lookup (gA K C y) with
  | none => rw [lk] at h6; cases h6
  | some o =>
    obtain ⟨oc, od, dt, osl⟩ := o
    rw [lk] at h6 e
    cases dt with
    | func fd =>
      obtain ⟨n1, n2, n3, n4, n5, n6, n7, n8, n9, n10, n11, n12, n13, n14, n15⟩ := fd
      have e2 : (some (n1, n2, n3, n4, n5, n6, n7.map (·.1), n15) : FnC) = some (y, q, defArgs st, .stmts (defBody st), defScope st, mainGlobals, [], builtinsNs) := e
      simp only [Option.some.injEq, Prod.mk.injEq] at e2
      obtain ⟨q1, q2, q3, q4, q5, q6, q7, q8⟩ := e2
      have q7 : n7 = [] := List.map_eq_nil_iff.mp q7
      subst q1 q2 q3 q4 q5 q6 q7 q8
      have h7 : (PySem.W.codeIn K n13 n2 && He.dflB K n8 []) = true := h6
      obtain ⟨k1, k2⟩ := He.ba h7
      exact ⟨_, hp, ⟨oc, od, n8, n9, n10, n11, n12, n13, n14, osl, rfl, lk, k1, He.dflB_ok k2, .inl rfl⟩, h5⟩
    | _ => cases h6
end Z

/-! o[i] op= e; a list taken apart -/
namespace Z
open PySem L2
@[irreducible] def zGt (X : Cx) : V → V → Hp → VK → Prop := fun o i H Q => ∀ ps s σ ov iv, Inv X ps σ H s → RelV o ov → RelV i iv → wpAny (model X.prog X.w) X.A (getItem ov iv) (EP X ps σ Q) X.xe s
section
variable {X : Cx} {P : Program} {w : World} {K : PySem.W.Frag} {mg : Str → Option Value} {base : Heap} {N : List Str} {sc : Scope} {k : Nat}
variable {σ : St} {H : Hp} {nx bk ct : St → Hp → Prop} {rt : VK} {Q : VK}
theorem zGt_ok : PGet X (zGt X) := fun ps s σ H o i ov iv Q I ro ri h => by unfold zGt at h; exact h ps s σ ov iv I ro ri
theorem zGt_of {t : V → V → Hp → VK → Prop} (p : PGet X t) {o i : V} (h : t o i H Q) : zGt X o i H Q := by unfold zGt; exact fun ps s σ ov iv I ro ri => p ps s σ H o i ov iv Q I ro ri h
theorem s_augX {o i e : Expr} {op : Operator} {tpos pos : Pos} (h : zE X o σ H fun x H1 => zE X i σ H1 fun y H2 => zGt X x y H2 fun v H3 => zE X e σ H3 fun u H4 => zO X (inplaceOp op) v u H4 fun z H5 => zSet X x y z H5 fun H6 => nx σ H6)
    (ha : ∀ ov iv new, augStore i ov iv new = (do holding [new, ov, iv] (setItem ov iv new); release [new, ov, iv] []; pure .next) := by intros; rfl) : zS X (.AugAssign (.Subscript o i tpos) op e pos) nx rt bk ct σ H := zS_of (ps_augS (zE_ok o) (zE_ok i) zGt_ok (zE_ok e) zPIp zSet_ok ha) h
theorem g_unl {es : List Expr} {kk : Nat} {pos : Pos} {a : Addr} {vs : List V} {QG : St → Hp → Prop} (C : Ctx X P w K mg base N sc k) (ha : SqL X.K H a vs) (h : zGs X es vs σ H QG)
    (hn : (assignEach es X.env).length = vs.length := by rfl) (hst : (assignEach es X.env).findIdx? (·.1) = none := by rfl) : zG X (.Tuple es kk pos) (.ref a) σ H QG := zG_of (pg_unl C.calm (zGs_ok es) rfl hst) ⟨a, vs, rfl, ha, hn.symm, h⟩
theorem gt_l {l : Addr} {xs : List V} {v : V} {i : Int} (hl : SqL X.K H l xs) (h0 : 0 ≤ i) (hv : xs[i.toNat]? = some v) (h : Q v H) : zGt X (.ref l) (.int i) H Q := by
  unfold zGt
  intro ps s σ ov iv I ro ri
  cases ro
  obtain ⟨t, rfl⟩ := ri
  obtain ⟨its, r, pl, hz⟩ := I.list hl
  obtain ⟨w', ew, rw'⟩ := r.get hv
  have hn := line63
  have h1 : i.toNat < xs.length := (List.getElem?_eq_some_iff.mp hv).1
  have hl2 := r.length
  exact wpAny_getItem_list pl.isList h0 (by omega) (by simpa using ew) ⟨v, H, I, rw', h⟩
end
end Z

/-! a lambda as a value: its function object is known from now on -/
namespace Z
open PySem L2
/-- the words of a lambda's function: the cells it captured, its code object, where its defaults lie -/
structure LF where
  qual : Str
  params : Arguments
  body : Expr
  scope : Scope
  cl : List (Str × Addr)
  c : Addr
  dv : Option Addr
def dvV : Option Addr → Value
  | none => .none
  | some a => .ref a
abbrev LF.fd (F : LF) (pm ctv : Value) : FuncData :=
  { name := "<lambda>", qualname := F.qual, params := F.params, body := .expr F.body, scope := F.scope, globals := mainGlobals, closure := F.cl, defaults := dvV F.dv, kwdefaults := .none, doc := .none, pyModule := pm, annotations := none, code := .ref F.c, closureTuple := ctv, builtins := builtinsNs }
def LamO (f : Addr) (F : LF) : HO := .ext fun h => ∃ pm ctv : Value, h.get? f = some ({ cls := .type "function", data := .func (F.fd pm ctv) } : Obj)
theorem lamO_ne {f : Addr} {F : LF} (ps : Array Value) : LamO f F ≠ .tbl ps := fun z => by
  unfold LamO at z
  cases z
theorem lamO_ok {h : Heap} {f : Addr} {F : LF} {pm ctv : Value} (e : h.get? f = some ({ cls := .type "function", data := .func (F.fd pm ctv) } : Obj)) {Pg : Program} {w : World} {H : Hp} : ObjOk Pg w H h f (LamO f F) :=
  ⟨⟨pm, ctv, e⟩, ⟨_, e⟩, fun h1 h2 ⟨pm, ctv, z⟩ st => ⟨pm, ctv, st _ z⟩⟩
theorem lamO_at {P : Program} {w : World} {H : Hp} {h : Heap} {f : Addr} {F : LF} (hok : HOk P w H h) (e : H f = some (LamO f F)) : ∃ pm ctv : Value, h.get? f = some ({ cls := .type "function", data := .func (F.fd pm ctv) } : Obj) := by
  obtain ⟨z, _, _⟩ := hok f _ e
  exact z
section
variable {M : Model} {A : Around} {E : Value → Shared → Prop} {s : Shared} {name qual : Str} {params : Arguments} {body : Expr} {scope : Scope} {env : Env} {c P : Addr} {ps : Array Value} {pos : Pos} {ln : Nat} {mg : Str → Option Value} {clos : List (Str × Addr)} {Q : Value → Shared → Prop} {dv : Value}
/-- the function object made: its code object is new .. -/
theorem tail_new (hcl : closureFor scope env = pure clos) (hge : env.globals = mainGlobals) (hg : s.heap.Ns mainGlobals mg) (hcode : env.code = .ref c) (C : PySem.W.CodeHd s.heap c P) (hP : s.heap.get? P = some (PySem.W.tabObj ps)) (ht : TriplesOk ps.toList) (hnf : codeAmong pos ps.toList = none) (hgP : mainGlobals ≠ P) (hb : s.heap.BuiltinsAt mg P)
    (h : ∀ c' ctv h' tk, Heap.ExtBut P s.heap h' → s.heap.objs.size ≤ c' → c' < h'.objs.size → h'.CodeRec (.ref c') qual → h'.get? P = some (PySem.W.tabObj (ps ++ #[rawInt pos.line, rawInt pos.col, .ref c'])) →
      Q (.ref h'.objs.size) { s with heap := h'.push { cls := .type "function", data := .func { name := name, qualname := qual, params := params, body := .expr body, scope := scope, globals := mainGlobals, closure := clos, defaults := dv, kwdefaults := .none, doc := .none, pyModule := (mg "__name__").getD .none, annotations := none, code := .ref c', closureTuple := ctv, builtins := builtinsNs } }, toks := tk }) :
    wpAny M A (makeTail name qual params (.expr body) scope env dv .none none pos ln) Q E s := by
  obtain ⟨bm, ob, b1, b2, _, b4, b5, b6, b7, b8⟩ := hb
  unfold makeTail
  rw [hcl, hge]
  refine wpAny_bind (wpAny_pure ?_)
  cases clos with
  | nil =>
    simp only [List.isEmpty_nil, if_true]
    refine wpAny_bind (wpAny_pure ?_)
    refine wpAny_bind (wpAny_functionCodeX hcode (C.code hP ht) (C.tab hP) hnf fun c' h' tk hx h1 h2 _ h3 h4 _ => ?_)
    have hg' := hg.extBut hx hgP
    refine wpAny_bind (wpAny_builtinsFor hg' b1 b2 (hx _ _ b4 b5) b6 b7 b8 ?_)
    refine wpAny_bind (wpAny_nsGet hg' ?_)
    exact wpAny_bind (wpAny_pure (wpAny_newObj_type (h c' .none h' tk hx h1 h2 h3 h4.2) (by size_fits)))
  | cons q r =>
    simp only [List.isEmpty_cons, Bool.false_eq_true, if_false]
    refine wpAny_bind (wpAny_newTextTuple ?_)
    refine wpAny_bind (wpAny_functionCodeX hcode ((C.keeps fun b o e => Heap.get?_push_of_some _ e).code (Heap.get?_push_of_some _ hP) ht) ((C.keeps fun b o e => Heap.get?_push_of_some _ e).tab (Heap.get?_push_of_some _ hP)) hnf fun c' h' tk hx h1 h2 _ h3 h4 _ => ?_)
    have hg' := (hg.push _).extBut hx hgP
    have hx' : Heap.ExtBut P s.heap h' := fun b o hb' e => hx b o hb' (Heap.get?_push_of_some _ e)
    have h1' : s.heap.objs.size ≤ c' := Nat.le_trans (by rw [Heap.size_push]; omega) h1
    refine wpAny_bind (wpAny_builtinsFor hg' b1 b2 (hx' _ _ b4 b5) b6 b7 b8 ?_)
    refine wpAny_bind (wpAny_nsGet hg' ?_)
    exact wpAny_bind (wpAny_pure (wpAny_newObj_type (h c' _ h' tk hx' h1' h2 h3 h4.2) (by size_fits)))
/-- .. or found in the table -/
theorem tail_hit {cv : Value} (hcl : closureFor scope env = pure clos) (hge : env.globals = mainGlobals) (hg : s.heap.Ns mainGlobals mg) (hcode : env.code = .ref c) (C : PySem.W.CodeHd s.heap c P) (hP : s.heap.get? P = some (PySem.W.tabObj ps)) (ht : TriplesOk ps.toList) (hf : codeAmong pos ps.toList = some cv) (hb : s.heap.BuiltinsAt mg P)
    (h : ∀ (ctv : Value) (h' : Heap) (tk : Tok), (∀ b o, s.heap.get? b = some o → h'.get? b = some o) → s.heap.objs.size ≤ h'.objs.size →
      Q (.ref h'.objs.size) { s with heap := h'.push { cls := .type "function", data := .func { name := name, qualname := qual, params := params, body := .expr body, scope := scope, globals := mainGlobals, closure := clos, defaults := dv, kwdefaults := .none, doc := .none, pyModule := (mg "__name__").getD .none, annotations := none, code := cv, closureTuple := ctv, builtins := builtinsNs } }, toks := tk }) :
    wpAny M A (makeTail name qual params (.expr body) scope env dv .none none pos ln) Q E s := by
  obtain ⟨bm, ob, b1, b2, _, b4, b5, b6, b7, b8⟩ := hb
  unfold makeTail
  rw [hcl, hge]
  refine wpAny_bind (wpAny_pure ?_)
  cases clos with
  | nil =>
    simp only [List.isEmpty_nil, if_true]
    refine wpAny_bind (wpAny_pure ?_)
    refine wpAny_bind (wpAny_functionCode_hit hcode (C.code hP ht) hf ?_)
    refine wpAny_bind (wpAny_builtinsFor hg b1 b2 b5 b6 b7 b8 ?_)
    refine wpAny_bind (wpAny_nsGet hg ?_)
    exact wpAny_bind (wpAny_pure (wpAny_newObj_type (h .none s.heap s.toks (fun _ _ e => e) (Nat.le_refl _)) (by size_fits)))
  | cons q r =>
    simp only [List.isEmpty_cons, Bool.false_eq_true, if_false]
    refine wpAny_bind (wpAny_newTextTuple ?_)
    refine wpAny_bind (wpAny_functionCode_hit hcode ((C.keeps fun b o e => Heap.get?_push_of_some _ e).code (Heap.get?_push_of_some _ hP) ht) hf ?_)
    refine wpAny_bind (wpAny_builtinsFor (hg.push _) b1 b2 (Heap.get?_push_of_some _ b5) b6 b7 b8 ?_)
    refine wpAny_bind (wpAny_nsGet (hg.push _) ?_)
    have hsz : ∀ oT : Obj, s.heap.objs.size ≤ (s.heap.push oT).objs.size := fun oT => by rw [Heap.size_push]; omega
    exact wpAny_bind (wpAny_pure (wpAny_newObj_type (h _ _ s.toks (fun b o e => Heap.get?_push_of_some _ e) (hsz _)) (by size_fits)))
end
section
variable {X : Cx} {pins : List (Addr × Obj)} {σ : St} {H : Hp} {s : Shared} {c P : Addr} {params : Arguments} {body : Expr} {scope : Scope} {pos : Pos} {ln : Nat} {E : Value → Shared → Prop} {Q : Value → Shared → Prop} {qn : Str} {dv : Option Addr}
theorem tabS_ext {H H' : Hp} {T : Addr} {q : Str} (t : LamX.TabS H T q) (e : ∀ b o, H b = some o → H' b = some o) : LamX.TabS H' T q := t.ext e
/-- the lambda's function object is made and known -/
theorem lam_inv (I : Inv X pins σ H s) (TB : LamX.TabB X.base X.mg c P) (hcode : X.env.code = .ref c) (hT : LamX.TabS H P qn) (hfree : ∀ y ∈ scope.names, y.2 = .free → ∃ c, X.env.cells.lookup y.1 = some c)
    (h : ∀ (f c' : Addr) (H1 : Hp) (s' : Shared), Inv X pins σ H1 s' → LamX.ExtN H H1 → (∀ b, H1 b = none → H b = none) → LamX.TabS H1 P qn → H f = none → H1 f = some (LamO f ⟨qn, params, body, scope, cloFrom X.env.cells scope.names [], c', dv⟩) → H1 c' = some (LamX.CodeO c' qn) → Q (.ref f) s') :
    wpAny (model X.prog X.w) X.A (makeTail "<lambda>" qn params (.expr body) scope X.env (dvV dv) .none none pos ln) Q E s := by
  obtain ⟨ps, hP, ht, ha⟩ := hT
  have bP : s.heap.BuiltinsAt X.mg P := TB.bm.keeps I.bk
  have hP' : s.heap.get? P = some { cls := .none, data := .fields ps } := I.hok P _ hP
  have kn : ∀ (H1 : Hp) (s1 : Shared) (F : LF) (pm ctv : Value) (tk : Nat), Inv X pins σ H1 s1 → Inv X pins σ (upd H1 s1.heap.objs.size (LamO s1.heap.objs.size F)) { s1 with heap := s1.heap.push { cls := .type "function", data := .func (F.fd pm ctv) }, toks := tk } := fun H1 s1 F pm ctv tk I1 =>
    I1.laid (fun b u e => Heap.get?_push_of_some _ e) (Nat.le_refl _) (lamO_ok (Heap.get?_push_size _ rfl))
  cases hc : codeAmong pos ps.toList with
  | none =>
    refine tail_new (mg := X.mg) (c := c) (P := P) (ps := ps) (closure_ok hfree) I.ok.glob (I.mod.glob.keeps I.bk) hcode (TB.code.keeps I.bk) hP' ht hc TB.gP bP fun c' ctv h' tk hx h1 h2 h3 htb => ?_
    obtain ⟨c2, oc, vs, t, e2, hoc, hd, hv⟩ := h3
    cases e2
    have nC : H c' = none := I.hok.fresh h1
    have I1 := LamX.inv_table (t' := tk) (more := #[rawInt pos.line, rawInt pos.col, .ref c']) (h' := h') (q := qn) I hP (fun b o hb e => hx b o hb e) htb h1 ⟨oc, vs, t, hoc, hd, hv⟩
    obtain ⟨H2, hH2⟩ : ∃ H2, upd (upd H P (.tbl (ps ++ #[rawInt pos.line, rawInt pos.col, .ref c']))) c' (LamX.CodeO c' qn) = H2 := ⟨_, rfl⟩
    have hE : LamX.ExtN H H2 := fun b o e n => by
      rw [← hH2, upd_ne (ne_of_none e nC), upd_ne (fun z => n ps (Option.some.inj (e.symm.trans (by rw [z]; exact hP))))]
      exact e
    have hN : ∀ b, H2 b = none → H b = none := fun b e => by
      rw [← hH2] at e
      unfold upd at e
      split at e
      · cases e
      · split at e
        · cases e
        · exact e
    have hc2 : H2 c' = some (LamX.CodeO c' qn) := by rw [← hH2]; exact upd_same
    rw [hH2] at I1
    have eL : (ps ++ #[rawInt pos.line, rawInt pos.col, .ref c']).toList = ps.toList ++ [rawInt pos.line, rawInt pos.col, .ref c'] := by simp
    have T2 : LamX.TabS H2 P qn := by
      refine ⟨_, by rw [← hH2, upd_ne (ne_of_none hP nC), upd_same], by rw [eL]; exact PySem.TriplesOk_snoc _ _ _ _ ht, fun p' cv hcv => ?_⟩
      rw [eL] at hcv
      rcases LamX.among_app _ ht hcv with z | z
      · obtain ⟨c0, q1, q2⟩ := ha p' cv z
        exact ⟨c0, q1, hE _ _ q2 LamX.codeO_ne⟩
      · exact ⟨c', z, hc2⟩
    have I2 := kn H2 { s with heap := h', toks := tk } ⟨qn, params, body, scope, cloFrom X.env.cells scope.names [], c', dv⟩ ((X.mg "__name__").getD .none) ctv tk I1
    have nF : H2 h'.objs.size = none := I1.hok.fresh (Nat.le_refl _)
    have up : ∀ b o, H2 b = some o → upd H2 h'.objs.size (LamO h'.objs.size ⟨qn, params, body, scope, cloFrom X.env.cells scope.names [], c', dv⟩) b = some o := fun b o e => (upd_ne (ne_of_none e nF)).trans e
    exact h h'.objs.size c' _ _ I2 (fun b o e n => up b o (hE b o e n)) (fun b e => hN b (by
      unfold upd at e
      split at e
      · cases e
      · exact e)) (tabS_ext T2 up) (hN _ nF) upd_same (up _ _ hc2)
  | some cv =>
    obtain ⟨c', e, hco⟩ := ha pos cv hc
    subst e
    refine tail_hit (mg := X.mg) (c := c) (P := P) (ps := ps) (closure_ok hfree) I.ok.glob (I.mod.glob.keeps I.bk) hcode (TB.code.keeps I.bk) hP' ht hc bP fun ctv h' tk hx hsz => ?_
    have I1 : Inv X pins σ H { s with heap := h', toks := tk } := I.kept hx
    have nF : H h'.objs.size = none := I1.hok.fresh (Nat.le_refl _)
    have I2 := kn H { s with heap := h', toks := tk } ⟨qn, params, body, scope, cloFrom X.env.cells scope.names [], c', dv⟩ ((X.mg "__name__").getD .none) ctv tk I1
    have up : ∀ b o, H b = some o → upd H h'.objs.size (LamO h'.objs.size ⟨qn, params, body, scope, cloFrom X.env.cells scope.names [], c', dv⟩) b = some o := fun b o e => (upd_ne (ne_of_none e nF)).trans e
    exact h h'.objs.size c' _ _ I2 (fun b o e n => up b o e) (fun b e => by
      unfold upd at e
      split at e
      · cases e
      · exact e) (tabS_ext ⟨ps, hP, ht, ha⟩ up) nF upd_same (up _ _ hco)
end
section
variable {X : Cx} {P : Program} {w : World} {K : PySem.W.Frag} {mg : Str → Option Value} {base : Heap} {N : List Str} {sc : Scope} {k : Nat} {σ : St} {H : Hp} {Q : VK} {c T : Addr} {params : Arguments} {body : Expr} {scope : Scope} {pos : Pos}
/-- lambda: body, as a value -/
theorem e_lamV (L : LamT X c T) (hT : LamX.TabS H T (X.env.qual ++ "<lambda>")) (hl : LamX.lamSB sc scope = true) (C : Ctx X P w K mg base N sc k)
    (h : ∀ (f c' : Addr) (H1 : Hp), LamX.ExtN H H1 → (∀ b, H1 b = none → H b = none) → LamX.TabS H1 T (X.env.qual ++ "<lambda>") → H f = none → H1 f = some (LamO f ⟨X.env.qual ++ "<lambda>", params, body, scope, cloFrom X.env.cells scope.names [], c', none⟩) → H1 c' = some (LamX.CodeO c' (X.env.qual ++ "<lambda>")) → Q (.ref f) H1)
    (hdef : defaultsOf params X.env = ([], []) := by rfl) : zE X (.Lambda params body scope pos) σ H Q := by
  unfold zE
  intro ps s I
  have LS : LamX.LamS X.env.scope scope := by rw [C.scp]; exact LamX.lamS_by hl
  refine PySem.W.kla_eval hdef ?_
  rw [makeFunction_eq]
  simp only [List.zip_nil_right, List.filterMap_nil, List.isEmpty_nil, if_true, pure_bind]
  exact lam_inv (dv := none) I L.tb L.code hT (LS.has I.ok) fun f c' H1 s' J e1 n1 t1 nf hf hc => ⟨.ref f, H1, J, rfl, h f c' H1 e1 n1 t1 nf hf hc⟩
/-- lambda x=i: body, as a value -/
theorem e_lamD {i : Int} {jj : Nat} {pd : Pos} (L : LamT X c T) (hT : LamX.TabS H T (X.env.qual ++ "<lambda>")) (hl : ∀ y ∈ scope.names, y.2 = .free → sc.names.lookup y.1 = some .cell ∨ sc.names.lookup y.1 = some .free) (C : Ctx X P w K mg base N sc k)
    (h : ∀ (f c' tp : Addr) (H1 : Hp), LamX.ExtN H H1 → (∀ b, H1 b = none → H b = none) → LamX.TabS H1 T (X.env.qual ++ "<lambda>") → H f = none → H1 f = some (LamO f ⟨X.env.qual ++ "<lambda>", params, body, scope, cloFrom X.env.cells scope.names [], c', some tp⟩) → H1 c' = some (LamX.CodeO c' (X.env.qual ++ "<lambda>")) → H1 tp = some (.tup [.int i]) → Q (.ref f) H1)
    (hdef : defaultsOf params X.env = ([eval (.Constant (.int i) jj pd) X.env], []) := by rfl) : zE X (.Lambda params body scope pos) σ H Q := by
  unfold zE
  intro ps s I
  have hfree : ∀ y ∈ scope.names, y.2 = .free → ∃ c, X.env.cells.lookup y.1 = some c := fun y hy e => by
    refine I.ok.has y.1 ?_
    show X.env.scope.names.lookup y.1 = _ ∨ X.env.scope.names.lookup y.1 = _
    rw [C.scp]
    exact hl y hy e
  rw [arm_eval_Lambda, hdef]
  refine wpAny_bind (wpAny_bind (wpAny_Constant_int ?_))
  refine wpAny_bind (wpAny_holding (wpAny_pure (wpAny_pure ?_)))
  refine wpAny_bind (wpAny_holding (wpAny_pure ?_))
  rw [makeFunction_eq]
  simp only [List.zip_nil_right, List.filterMap_nil, List.isEmpty_nil, List.isEmpty_cons, Bool.false_eq_true, if_false, if_true, pure_bind]
  refine wpAny_bind (wpAny_newTextTuple ?_)
  obtain ⟨hh, g, d, t, os⟩ := s
  have I0 : Inv X ps σ H ⟨hh, g, d, t + 1, os⟩ := I.tok (t + 1)
  have hget : (hh.push { cls := .type "tuple", data := .seq ([Value.int i t] : List Value).toArray }).get? hh.objs.size = some { cls := .type "tuple", data := .seq ([Value.int i t] : List Value).toArray } := Heap.get?_push_size _ rfl
  have nT : H hh.objs.size = none := I.hok.fresh (Nat.le_refl _)
  have I1 : Inv X ps σ (upd H hh.objs.size (.tup [.int i])) ⟨hh.push { cls := .type "tuple", data := .seq ([Value.int i t] : List Value).toArray }, g, d, t + 1, os⟩ :=
    I0.laid (t' := t + 1) (a := hh.objs.size) (o := .tup [.int i]) (fun b u e => Heap.get?_push_of_some _ e) (Nat.le_refl _) ⟨by show 1 ≤ sizeLine; decide, [.int i t], .cons ⟨t, rfl⟩ .nil, ⟨_, hget, rfl, _, rfl⟩⟩
  have e0 : Ex H (upd H hh.objs.size (.tup [.int i])) := Evl.Ex.new nT
  exact lam_inv (dv := some hh.objs.size) I1 L.tb L.code (tabS_ext hT e0) hfree fun f c' H1 s' J e1 n1 t1 nf hf hc => ⟨.ref f, H1, J, rfl, h f c' _ H1 (fun b o e n => e1 b o (e0 b o e) n) (fun b e => by
    have := n1 b e
    unfold upd at this
    split at this
    · cases this
    · exact this) t1 (by
    have := nf
    unfold upd at this
    split at this
    · cases this
    · exact this) hf hc (e1 _ _ upd_same (fun _ z => by cases z))⟩
end
end Z

/-! a comprehension whose element may lean on the maker's state at the block's entry -/
namespace Z
open PySem L2 PyProof.Rows
theorem lc_own {X : Cx} {pins : List (Addr × Obj)} {s : Shared} {σ : L2.St} {H : Hp} {Q : VK} {elt tg iter : Expr} {scope : Scope} {own : List (Str × Nat)} {pos pos' : Pos} {wi : TI} {g : TG} {te : TE}
    (hc : X.calm = true) (hN : X.N.Nodup) (I : L2.Inv X pins σ H s) (hi : PI X tg iter wi) (ok : BlkOk X.N X.env.scope scope own)
    (hg : ∀ (s : Shared) (H : Hp) (a : Addr) (cl : List (Str × Addr)) (fp : List Addr), PG (X.blk s H scope (compEnvC scope cl a X.env) fp) tg g)
    (he : ∀ (s : Shared) (H : Hp) (a : Addr) (cl : List (Str × Addr)) (fp : List Addr), L2.Inv X pins σ H s → (∀ b ∈ fp, FpOk X pins H b) → PE (X.blk s H scope (compEnvC scope cl a X.env) fp) elt te) (hs : ∀ x, foldedSetIterable iter X.env x = pure x)
    (h : tLc wi g tYes te (own.map (·.2)) σ H Q) : wpAny (model X.prog X.w) X.A (comprehension (.ListComp elt [⟨tg, iter, [], 0⟩] scope pos) scope X.env pos' (newList []) false (eval iter X.env) none) (EP X pins σ Q) X.xe s := by
  have hfree : ∀ y ∈ scope.names, y.2 = .free → ∃ c, X.env.cells.lookup y.1 = some c := fun y hy e => (ok.free y hy e).elim (fun k => I.ok.has _ (.inl k)) fun k => I.ok.has _ (.inr k)
  have ends : ∀ (D a : Addr) (s' : Shared) (m : Str → Option Value) (H' : Hp), L2.Inv X pins σ H' s' → Q (.ref D) H' → s'.heap.Ns a m → FpOk X pins H' a → compPost (model X.prog X.w) X.A X.xe none (EP X pins σ Q) (.ref D) a (.ok .next) s' := fun D a s' m H' I' q hn f => ⟨m, hn, fun h2 sb => by
    obtain ⟨f0, f1, f2, f3, f4, f5⟩ := f
    exact ⟨.ref D, H', I'.turned (t' := s'.toks) (fun b o hb e => (sb.2 b hb).trans e) f0 f1 f3 f4 f5, rfl, q⟩⟩
  refine wpAny_comprehension_free (use := none) rfl hs (closure_ok hfree) ok.kind (fun y hy e => by rw [ok.uniq y hy, e]) (thn (hi.run pins s σ H _ I h) fun xv s1 hx => thn hx fun itv s2 h2 => ?_)
  obtain ⟨it, fp, tn, J, H2, rfl, I2, T, st2, f2, q⟩ := h2
  refine wpAny_newObj_type (newEnv_comp ?_) (by show 0 ≤ sizeLine; decide)
  obtain ⟨D, hD⟩ : ∃ D, s2.heap.objs.size = D := ⟨_, rfl⟩
  rw [hD]
  have hDn : H2 D = none := I2.hok.fresh (Nat.le_of_eq hD)
  obtain ⟨W, ⟨m0, w0⟩, turn⟩ := q D hDn
  obtain ⟨s3, hs3⟩ : ∃ s3 : Shared, ({ s2 with heap := s2.heap.push { cls := .type "list", data := .seq ([] : List Value).toArray } } : Shared) = s3 := ⟨_, rfl⟩
  rw [hs3]
  have h3 : s3.heap = s2.heap.push { cls := .type "list", data := .seq ([] : List Value).toArray } := by rw [← hs3]
  obtain ⟨H3, hH3⟩ : ∃ H3, L2.upd H2 D (.lst []) = H3 := ⟨_, rfl⟩
  rw [hH3] at w0
  have I3 : L2.Inv X pins σ H3 s3 := by
    rw [← hs3, ← hH3]
    refine I2.laid (t' := s2.toks) (fun b o e => Heap.get?_push_of_some _ e) (Nat.le_of_eq hD) ⟨Nat.zero_le _, [], 0, .nil, ?_⟩
    rw [← hD]
    exact Heap.get?_push_size _ rfl
  have f3 : ∀ b ∈ fp, FpOk X pins H3 b ∧ b < s3.heap.objs.size := fun b hb => by
    obtain ⟨o, e, _⟩ := T.obj _ _ st2 b hb
    have hlt := Heap.lt_size e
    refine ⟨⟨?_, (f2 b hb).2⟩, by rw [h3, Heap.size_push]; exact Nat.lt_succ_of_lt hlt⟩
    rw [← hH3, upd_ne (by rw [← hD]; exact Nat.ne_of_lt hlt)]
    exact (f2 b hb).1
  have st3 : tn 0 s3.heap := T.keep _ _ _ st2 fun b _ o e => by rw [h3]; exact Heap.get?_push_of_some _ e
  have I4 := block_start I3 ok hN f3
  have pg := hg s3 H3 s3.heap.objs.size (cellsFrom (s3.heap.objs.size + 1) scope.names (cloFrom X.env.cells scope.names [])) fp
  have pe := he s3 H3 s3.heap.objs.size (cellsFrom (s3.heap.objs.size + 1) scope.names (cloFrom X.env.cells scope.names [])) fp I3 fun b hb => (f3 b hb).1
  show codeAny _ _ (.compStart (.ListComp elt [⟨tg, iter, [], 0⟩] scope pos) 0 (.ref it) (.ref D) (compEnvC scope (cellsFrom (s3.heap.objs.size + 1) scope.names (cloFrom X.env.cells scope.names [])) s3.heap.objs.size X.env)) (compPost (model X.prog X.w) X.A X.xe none (EP X pins σ Q) (.ref D) s3.heap.objs.size) { s3 with heap := pushCells (s3.heap.push { cls := .type "dict", data := .dict #[] }) scope.names }
  obtain ⟨ce, hce⟩ : ∃ ce, compEnvC scope (cellsFrom (s3.heap.objs.size + 1) scope.names (cloFrom X.env.cells scope.names [])) s3.heap.objs.size X.env = ce := ⟨_, rfl⟩
  rw [hce] at I4 pg pe ⊢
  have cL : ce.locals = s3.heap.objs.size := by rw [← hce]; rfl
  obtain ⟨s4, hs4⟩ : ∃ s4 : Shared, ({ s3 with heap := pushCells (s3.heap.push { cls := .type "dict", data := .dict #[] }) scope.names } : Shared) = s4 := ⟨_, rfl⟩
  rw [hs4] at I4 ⊢
  have st4 : tn 0 s4.heap := T.keep _ _ _ st3 fun b _ o e => by rw [← hs4]; exact pushCells_keeps _ _ _ _ (Heap.get?_push_of_some _ e)
  have nfp : ∀ b ∈ fp, H3 b = none := fun b hb => (f3 b hb).1.1
  have stat : ∀ {σ' : L2.St} {H' : Hp} {s' : Shared}, L2.Inv (X.blk s3 H3 scope ce fp) [] σ' H' s' → (∀ b ∈ fp, H' b = none) → ∀ b ∈ fp, FpOk (X.blk s3 H3 scope ce fp) [] H' b := fun {σ' H' s'} I' hn b hb =>
    ⟨hn b hb, (I'.ok.exf b hb).1, I'.ok.exfs b hb, .inl hb, fun x c e => (I'.ok.exf b hb).2 x c e, fun p hp => absurd (show p ∈ ([] : List (Addr × Obj)) ++ [] from hp) (by simp)⟩
  have loop : codeAny (model X.prog X.w) X.A (.compLoop (.ListComp elt [⟨tg, iter, [], 0⟩] scope pos) 0 (.ref it) (.ref D) ce) (compPost (model X.prog X.w) X.A X.xe none (EP X pins σ Q) (.ref D) s3.heap.objs.size) s4 := by
    refine compLoop_any (fun n s' => ∃ i H', L2.Inv (X.blk s3 H3 scope ce fp) [] (wipe σ (own.map (·.2))) H' s' ∧ tn i s'.heap ∧ (∀ b ∈ fp, H' b = none) ∧ W i n H') ?_ m0 ⟨0, H3, I4, st4, nfp, w0⟩
    rintro n s5 ⟨i, H5, I5, st5, n5, w5⟩
    rcases turn i n H5 w5 with ⟨stop, qq⟩ | ⟨go, Nx, hNx, step⟩
    · have td := T.done (X.blk s3 H3 scope ce fp) rfl rfl rfl hc i [] s5 _ H5 (fun _ _ => False) I5 (stat I5 n5) st5 stop
      refine thnF td fun r s6 ⟨hr, I6⟩ => ?_
      subst hr
      have I7 : L2.Inv X pins σ H5 s6 := I3.call' (ch := fp) I6.os I6.base I6.hok I6.bare fun b hb => ⟨(f3 b hb).1.2.2.2.1, (f3 b hb).1.2.1, (f3 b hb).1.2.2.2.2.1, (f3 b hb).1.2.2.2.2.2⟩
      have nC : H5 s3.heap.objs.size = none := by
        have z : H5 ce.locals = none := I6.free
        rw [cL] at z
        exact z
      obtain ⟨m, hn, _⟩ := I6.loc
      have hn : s6.heap.Ns ce.locals m := hn
      rw [cL] at hn
      exact ends D s3.heap.objs.size s6 m H5 I7 qq hn (I3.fpOk (Nat.le_refl _) nC)
    · have ti := T.item (X.blk s3 H3 scope ce fp) rfl rfl rfl hc i [] s5 _ H5 (fun _ _ => False) I5 (stat I5 n5) st5 go
      refine thnF ti fun r s6 ⟨u, hr, h6⟩ => ?_
      subst hr
      refine thnF h6 fun _ s7 ⟨x, H7, I7, r7, y7, st7, n7⟩ => ?_
      have I7' := I7.pinned (stat I7 n7) (T.obj _ _ st7)
      refine thnF (pg.run _ s7 _ H7 x u _ I7' r7 (step x H7 y7)) fun _ s8 ⟨σ8, H8, I8, hw8, q8⟩ => ?_
      refine thnF ((pts_nil (X := X.blk s3 H3 scope ce fp)).run _ s8 σ8 H8 _ I8 q8) fun b s9 ⟨H9, I9, q9⟩ => ?_
      have fin : ∀ {s' : Shared} {H' : Hp}, L2.Inv (X.blk s3 H3 scope ce fp) ([] ++ pinsAt fp s7.heap) σ8 H' s' → Nx H' → ∃ m, m < n ∧ ∃ i H', L2.Inv (X.blk s3 H3 scope ce fp) [] (wipe σ (own.map (·.2))) H' s' ∧ tn i s'.heap ∧ (∀ b ∈ fp, H' b = none) ∧ W i m H' := fun {s' H'} I' nx => by
        obtain ⟨m', hm, w'⟩ := hNx H' nx
        have pin' : ∀ b ∈ fp, ∀ o, s7.heap.get? b = some o → s'.heap.get? b = some o ∧ H' b = none := fun b hb o e =>
          let z := I'.pin (b, o) (List.mem_append_right _ (List.mem_append_right _ (mem_pinsAt hb e)))
          ⟨z.1, z.2.1⟩
        have hl : (wipe σ (own.map (·.2))).length = σ8.length := by rw [← hw8, wipe_length]
        refine ⟨m', hm, i + 1, H', (I'.unpinned (pins := [])).weak hl (fun j v e => ?_), T.keep _ _ _ st7 fun b hb o e => (pin' b hb o e).1, fun b hb => ?_, w'⟩
        · rw [← hw8] at e
          exact (wipe_some e).1
        · obtain ⟨o, e, _⟩ := T.obj _ _ st7 b hb
          exact (pin' b hb o e).2
      cases b with
      | false =>
        simp only [Bool.false_eq_true, if_false] at q9 ⊢
        exact fin I9 q9
      | true =>
        simp only [if_true] at q9 ⊢
        refine thnF (pe.run _ s9 σ8 H9 _ I9 q9) fun z s10 ⟨yv, H10, I10, r10, acc, hD10, hz10, nx⟩ => ?_
        exact app_ok (X := X.blk s3 H3 scope ce fp) I10 hD10 hz10 r10 fun s11 I11 => fin I11 nx
  exact codeAny_compStart_list loop (T.self X.A 0 _ _ _ st4 loop)
/-- a list comprehension, one clause, no test; its element may lean on the maker's state -/
theorem pe_lcOwn {X : Cx} {elt tg iter : Expr} {scope : Scope} {own : List (Str × Nat)} {pos : Pos} {wi : TI} {g : TG} {te : TE} (hc : X.calm = true) (hN : X.N.Nodup) (hi : PI X tg iter wi) (ok : BlkOk X.N X.env.scope scope own)
    (hg : ∀ (s : Shared) (H : Hp) (a : Addr) (cl : List (Str × Addr)) (fp : List Addr), PG (X.blk s H scope (compEnvC scope cl a X.env) fp) tg g)
    (he : ∀ (s : Shared) (H : Hp) (a : Addr) (cl : List (Str × Addr)) (fp : List Addr) (pins : List (Addr × Obj)) (σ : L2.St), L2.Inv X pins σ H s → (∀ b ∈ fp, FpOk X pins H b) → PE (X.blk s H scope (compEnvC scope cl a X.env) fp) elt te) (hs : ∀ x, foldedSetIterable iter X.env x = pure x := by intro _; rfl) :
    PE X (.ListComp elt [⟨tg, iter, [], 0⟩] scope pos) (tLc wi g tYes te (own.map (·.2))) := by
  refine ⟨fun pins s σ H Q I h => ?_⟩
  rw [eval_ListComp]
  exact lc_own hc hN I hi ok hg (fun s H a cl fp I f => he s H a cl fp pins σ I f) hs h
end Z

/-! a known lambda called by the def that it is handed to -/
namespace Z
open PySem L2 NdefX
theorem cells_un {cl : List (Str × Addr)} {fr : List Str} {ws : List (Option V)} {h h' : Heap} {H H' : Hp} {fs ex : List Addr} (C : CellsAt cl fr ws h H) (u : Un fs ex H H' h h') (hx : ∀ y c, cl.lookup y = some c → c ∉ ex) : CellsAt cl fr ws h' H' := by
  have kp : ∀ y c, cl.lookup y = some c → ∀ v, h.IsCell c v → h'.IsCell c v := fun y c e v ⟨o, ho, hd⟩ => by
    obtain ⟨sl, q⟩ := u.any ho (C.all y c e).1 (hx y c e)
    exact ⟨_, q, hd⟩
  refine ⟨C.len, fun y c e => ?_, C.inj, fun i y e => ?_⟩
  · obtain ⟨n, v, z⟩ := C.all y c e
    refine ⟨?_, v, kp y c e v z⟩
    obtain ⟨o, ho, _⟩ := z
    exact u.free c o ho n (hx y c e)
  · obtain ⟨c, hc, hv⟩ := C.has i y e
    refine ⟨c, hc, fun v ev => ?_⟩
    obtain ⟨u', r, z⟩ := hv v ev
    exact ⟨u', r, kp y c hc _ z⟩
/-- what its parameters get: there are none, or one with its default -/
def DvO (F : LF) (vs : List V) (H : Hp) : Prop := (F.dv = none ∧ vs = []) ∨ ∃ tp i, F.dv = some tp ∧ H tp = some (.tup [.int i]) ∧ vs = [.int i]
theorem DvO.ex {F : LF} {vs : List V} {H H' : Hp} (d : DvO F vs H) (e : Ex H H') : DvO F vs H' := d.imp id fun ⟨tp, i, a, b, c⟩ => ⟨tp, i, a, e _ _ b, c⟩
structure Bnd (F : LF) (ps : List Str) : Prop where
  non : F.dv = none → ps = [] ∧ ∀ pm ctv, bindArgs (F.fd pm ctv) ⟨[], []⟩ = pure []
  one : ∀ tp, F.dv = some tp → ∃ a, ps = [a] ∧ ∀ pm ctv, ∃ k, bindArgs (F.fd pm ctv) ⟨[], []⟩ = seqItems? (.ref tp) >>= k ∧ ∀ v, k (some #[v]) = pure [(a, v)]
abbrev LF.nf (F : LF) : NF := ⟨"<lambda>", F.qual, F.params, [], F.scope, F.cl, F.c⟩
section
variable {P : Program} {w : World} {K : PySem.W.Frag} {mg : Str → Option Value} {base : Heap} {N ps fr : List Str} {F : LF} {f : Addr} {k : Nat} {A : Around} {outer : List Env} {s : Shared} {H : Hp} {vs : List V} {ws : List (Option V)} {Q : VK} {E : XK}
theorem lam_call (S : NScope N ps fr F.scope) (B : Bnd F ps) (hr : Room (k + 1) A) (e0 : Env0 P w K mg base A outer s H) (hf : H f = some (LamO f F)) (hc : H F.c = some (LamX.CodeO F.c F.qual)) (C : CellsAt F.cl fr ws s.heap H) (d : DvO F vs H)
    (hbody : zL P w K mg base N F.scope k F.body E (startF N vs ws) H Q) : codeAny (model P w) A (.call (.ref f) ⟨[], []⟩) (CR (L2.CX P w) outer P w H s Q E) s := by
  obtain ⟨pm, ctv, ho⟩ := lamO_at e0.hok hf
  have lim : s.heap.NoLimit := e0.mod.nolimit.keeps fun b o e => (e0.bs b o e).1
  have main : ∀ us : List Value, vs.length = ps.length → Vals vs us → wpAny (model P w) A.in1 (newFunctionEnv F.scope mainGlobals F.cl (ps.zip us) (F.qual ++ ".<locals>.") (some f) (.ref F.c) none builtinsNs)
      (fun env s2 => s2.heap.NoLimit ∧ codeAny (model P w) A (.expr F.body env) (CR (L2.CX P w) outer P w H s Q E) s2) (fun e s' => CR (L2.CX P w) outer P w H s Q E (.error e) s') s := fun us hl r => by
    refine wpAny_newFunctionEnv S.nocell (fun ⟨n, _⟩ hy => S.par n (List.of_mem_zip hy).1) (fun h₁ hns hsb => ⟨lim.fresh _ hsb, ?_⟩) S.kind
    have kp : ∀ b o, s.heap.get? b = some o → h₁.get? b = some o := fun b o e => hsb.extBut b o (Nat.ne_of_lt (Heap.lt_size e)) (Heap.get?_push_of_some _ e)
    have I : Inv (ncx (L2.CX P w) P w K mg base N F.nf f A outer s H E) [] (startF N vs ws) H { s with heap := h₁, toks := s.toks + (ps.zip us).length } := inv_startN (F := F.nf) S hr.hd e0 hl r C hns kp
    have hb := hbody (ncx (L2.CX P w) P w K mg base N F.nf f A outer s H E) ⟨rfl, rfl, rfl, rfl, rfl, rfl, rfl, rfl, hr.deeper _, passes_of rfl, S.nd⟩ (takes_of rfl rfl rfl rfl)
    refine PySem.W.kla_codeExpr (wpAny_mono ((zE_ok F.body).run [] _ _ H Q I hb) (fun v s' hq => ?_) fun e s' hq => hq)
    obtain ⟨w', H', J', rv, q⟩ := hq
    exact ⟨w', H', J'.os, J'.bare, J'.base, J'.hok, rv, q⟩
  refine PySem.W.kla_callFunE hr.depth ho rfl S.co S.gen rfl (codeO_at e0.hok hc) ?_
  rcases d with ⟨e1, rfl⟩ | ⟨tp, i, e1, e2, rfl⟩
  · obtain ⟨rfl, hb⟩ := B.non e1
    rw [hb]
    exact wpAny_pure (main [] rfl .nil)
  · obtain ⟨a, rfl, hb⟩ := B.one tp e1
    obtain ⟨kk, hb1, hb2⟩ := hb pm ctv
    rw [hb1]
    obtain ⟨_, us, r, o, ho2, _, n, hd2⟩ := e0.hok tp _ e2
    refine wpAny_bind (wpAny_seqItems ho2 hd2 ?_)
    obtain ⟨u, rfl⟩ : ∃ u, us = [u] := by
      cases r with
      | cons a b => cases b; exact ⟨_, rfl⟩
    rw [hb2]
    exact wpAny_pure (main [u] rfl r)
end
section
variable {X : Cx} {P : Program} {w : World} {K : PySem.W.Frag} {mg : Str → Option Value} {base : Heap} {N : List Str} {sc : Scope} {k j i : Nat} {σ : L2.St} {H : Hp} {Q : VK} {x y : Str} {TT : (XK → Hp → VK → Prop) → Hp → VK → Prop} {p py pos : Pos}
  {F : LF} {f : Addr} {Nl ps fr : List Str} {vs : List V} {ws : List (Option V)}
/-- x(y), y the lambda F: x makes TT of its reading -/
theorem e_lamC (C : Ctx X P w K mg base N sc k) (G : Gets P w K mg base x j TT) (hj : j + 2 ≤ k) (n : Nm X y i) (hs : σ[i]? = some (some (.ref f))) (hf : H f = some (LamO f F)) (hc : H F.c = some (LamX.CodeO F.c F.qual)) (d : DvO F vs H) (S : NScope Nl ps fr F.scope) (B : Bnd F ps)
    (CA : ∀ pins s, L2.Inv X pins σ H s → CellsAt F.cl fr ws s.heap H)
    (h : TT (fun E H' Q' => H' f = some (LamO f F) ∧ DvO F vs H' ∧ zL P w K mg base Nl F.scope j F.body E (startF Nl vs ws) H' Q') H Q)
    (hg : gloB sc x = true := by decide +kernel) (hdb : (x == ("__debug__" : Str)) = false := by decide) (hd : (y == ("__debug__" : Str)) = false := by decide) (hcd : (y == ("__classdict__" : Str)) = false := by decide) : zE X (.Call (.Name x p) [.Name y py] [] pos) σ H Q := by
  obtain ⟨g, fd, pg, bg, sg, a, Ng, F0, gm, hb, Sg, hN, hv, hda, hca, GT⟩ := G.ex
  obtain ⟨oc, od, dV, kV, doc, pm, an, cdv, ct, osl, rfl, lk, hcg, _, _⟩ := F0.ex
  have hgl := C.gl hg
  obtain ⟨rfl, rfl, rfl, rfl, rfl, rfl, rfl, hcalm, hr, _, nd⟩ := C
  unfold zE
  intro pins s I
  refine wpAny_Call_Name_kw (ld_glob I hgl gm ?_ hdb)
  refine PySem.W.callWith_K (h₀ := X.base) I.ok.mod.kin F0.kp ?_ (by rfl) (by rfl)
  show wpAny _ _ (spliced ((false, eval (.Name y py) X.env) :: backTo pos (starEach [] X.env))) _ _ s
  refine Calls.spliced_cons (thn ((pe_var (pos := py) (i := i) n.ix n.vis hd hcd).run pins s σ H (fun v H1 => v = .ref f ∧ H1 = H) I ⟨.ref f, hs, rfl, rfl⟩) fun u s1 ⟨v, H1, I1, r1, q1⟩ => ?_)
  obtain ⟨rfl, rfl⟩ := q1
  obtain rfl : u = Value.ref f := r1
  refine Calls.spliced_nil ⟨I1.kIn, ?_⟩
  have C1 := CA pins s1 I1
  have rc : codeAny (model X.prog X.w) X.A (.call (.ref g) ⟨[.ref f], []⟩) (CR C8.CX0 X.stack X.prog X.w H1 s1 Q C8.E0) s1 := by
    refine LamX.run_ofS (N := Ng) (ps := [a]) (us := [.ref f]) (vs := [.ref f]) lk hcg Sg (hr.mono hj) I1.env0 (hb s1 [.ref f] I1.kIn rfl) (.cons rfl .nil) rfl fun hr' => ?_
    refine Exists.elim (GT X rfl rfl rfl rfl rfl (hr.mono (by omega)) cdv F.qual f F.c s1 H1 Q _ (fun W pn xe E p1 p2 tk hW => ?_) hc h) fun t' z => ⟨t', z.1.nox, z.2⟩
    · refine ⟨fun pinsZ sZ σZ HZ Q IZ hz => ?_⟩
      obtain ⟨hs, hc, hf, d, hl⟩ := hz
      refine wpAny_Call_Name_kw (thn ((pe_var (pos := p1) (i := 0) hN hv hda hca).run pinsZ sZ σZ HZ (fun v H1 => v = .ref f ∧ H1 = HZ) IZ ⟨.ref f, hs, rfl, rfl⟩) fun u s2 ⟨v, H2, I2, r2, q2⟩ => ?_)
      obtain ⟨rfl, rfl⟩ := q2
      obtain rfl : u = Value.ref f := r2
      obtain ⟨pm2, ctv2, ho2⟩ := lamO_at I2.hok hf
      refine PySem.W.callWith_F0 ⟨_, _, _, _, ho2⟩ ?_
      have un : Un (frs X.stack) [] H1 H2 s1.heap s2.heap := I2.base
      have rc := lam_call S B hr' I2.env0 hf hc (cells_un C1 un fun _ _ _ => List.not_mem_nil) d hl
      refine wpAny_call (codeAny_mono rc fun r s' hq => ?_)
      cases r with
      | error e => exact passes_call tk hW pinsZ σZ H2 s2 e s' I2 hq
      | ok fl =>
        cases fl with
        | ret u => exact I2.after hq
        | next => exact False.elim hq
        | brk => exact False.elim hq
        | cont => exact False.elim hq
  refine wpAny_call (codeAny_mono rc fun r s2 hq => ?_)
  cases r with
  | error e => exact (show False from hq).elim
  | ok fl =>
    cases fl with
    | ret u => exact I1.after hq
    | next => exact False.elim hq
    | brk => exact False.elim hq
    | cont => exact False.elim hq
end
end Z

/-! a comprehension whose element calls the maker's lambdas -/
namespace Z
open PySem L2 NdefX
section
variable {X : Cx} {P : Program} {w : World} {K : PySem.W.Frag} {mg : Str → Option Value} {base : Heap} {N : List Str} {sc : Scope} {k : Nat}
variable {σ σ2 : L2.St} {H : Hp} {Q : VK} {tg : Expr}
/-- an element's reading in a block that the maker's state σ began -/
def zEo (X : Cx) (σ0 : L2.St) (scope : Scope) (e : Expr) : TE := fun σ H Q => ∀ s H0 c0 cl fp pins, L2.Inv X pins σ0 H0 s → (∀ b ∈ fp, FpOk X pins H0 b) → zE (X.blk s H0 scope (compEnvC scope cl c0 X.env) fp) e σ H Q
theorem zEo_mono {scope : Scope} {e : Expr} {Q Q' : VK} (h : zEo X σ scope e σ2 H Q) (k : ∀ b H', Q b H' → Q' b H') : zEo X σ scope e σ2 H Q' := fun s H0 c0 cl fp pins I f => zE_mono (h s H0 c0 cl fp pins I f) k
/-- the block X1 stands over the maker's state -/
def Own (X X1 : Cx) (σ : L2.St) : Prop := X.Ok ∧ ∀ cl fr js, Caps X cl fr js → ∀ pins σ2 H2 s, L2.Inv X1 pins σ2 H2 s → CellsAt cl fr (js.map (slotAt σ)) s.heap H2
theorem eo_intro {scope : Scope} {e : Expr} (C : Ctx X P w K mg base N sc k) (h : ∀ X1, Ctx X1 P w K mg base N (relS scope sc) k → Own X X1 σ → zE X1 e σ2 H Q) : zEo X σ scope e σ2 H Q := fun s H0 c0 cl fp pins I f =>
  h _ (C.blk s H0 scope c0 cl fp) ⟨I.ok, fun cl1 fr js cp pins1 σ3 H3 s3 I3 => cells_un (cells_of I cp) I3.base fun y c e hc => (f c hc).2.2.2.2.1 y c (cp.sub y c e) rfl⟩
/-- [elt for x in it], the element a new tuple g i -/
theorem e_lcO {x : Str} {j : Nat} {px : Pos} {elt it : Expr} {scope : Scope} {own : List (Str × Nat)} {pos : Pos} (C : Ctx X P w K mg base N sc k) (hb : blkC N sc scope own = true) (h1 : N[j]? = some x) (h2 : lclB (relS scope sc) x = true)
    (hw : ∀ v, wipe ((wipe σ (own.map (·.2))).set j (some v)) (own.map (·.2)) = wipe σ (own.map (·.2)))
    (h : zI X (.Name x px) it σ H fun J H1 => ∃ n S Y, ∃ g : Nat → List V, Walk J n S Y ∧ n ≤ 100000 ∧ (∀ H', Ex H1 H' → S H') ∧
      (∀ i v H', i < n → Ex H1 H' → Y i v H' → ∀ X1, Ctx X1 P w K mg base N (relS scope sc) k → Own X X1 σ → zE X1 elt ((wipe σ (own.map (·.2))).set j (some v)) H' fun y H4 => Ex H' H4 ∧ ∃ T, y = .ref T ∧ H4 T = some (.tup (g i))) ∧
      ∀ D ys H', H1 D = none → Ex H1 H' → H' D = some (.lst ys) → ys.length = n → (∀ i, i < n → ∃ T, ys[i]? = some (.ref T) ∧ H' T = some (.tup (g i))) → Q (.ref D) H')
    (hs : ∀ x, foldedSetIterable it X.env x = pure x := by intro _; rfl) : zE X (.ListComp elt [⟨.Name x px, it, [], 0⟩] scope pos) σ H Q := by
  unfold zE
  intro pins s I
  rw [eval_ListComp]
  refine lc_own (own := own) (wi := zI X (.Name x px) it) (g := zGb X scope (.Name x px)) (te := zEo X σ scope elt) C.calm (by rw [C.nms]; exact C.nd) I (zI_ok _ it) (by rw [C.nms, C.scp]; exact blkOk_by hb)
    (fun s H0 c0 cl fp => ⟨fun ps s' σ H v u Q I r q => (zG_ok (.Name x px)).run ps s' σ H v u Q I r (q s H0 c0 cl fp)⟩)
    (fun s H0 c0 cl fp I f => ⟨fun ps s' σ H Q I' q => (zE_ok elt).run ps s' σ H Q I' (q s H0 c0 cl fp pins I f)⟩) hs ?_
  show zI X (.Name x px) it σ H _
  refine zI_mono h fun J H1 ⟨n, S, Y, g, W, hn, hS, he, hd⟩ D hD => ?_
  refine ⟨fun i m H' => m = n - i ∧ i ≤ n ∧ ∃ ys, H' D = some (.lst ys) ∧ Ex H1 H' ∧ ys.length = i ∧ ∀ t, t < i → ∃ T, ys[t]? = some (.ref T) ∧ H' T = some (.tup (g t)), ⟨n, rfl, Nat.zero_le _, [], upd_same, Evl.Ex.new hD, rfl, fun t ht => by omega⟩, ?_⟩
  rintro i m H2 ⟨rfl, hi, ys, a1, a2, a3, a4⟩
  by_cases hlt : i < n
  · refine .inr ⟨W.go i H2 hlt (hS H2 a2), fun H' => ∃ ys, H' D = some (.lst ys) ∧ Ex H1 H' ∧ ys.length = i + 1 ∧ ∀ t, t < i + 1 → ∃ T, ys[t]? = some (.ref T) ∧ H' T = some (.tup (g t)), fun H' ⟨ys, a, b, c, d⟩ => ⟨n - (i + 1), by omega, rfl, hlt, ys, a, b, c, d⟩, fun v H' y => ?_⟩
    obtain ⟨e1, y1⟩ := W.yld i H2 v H' hlt (hS H2 a2) y
    have eH : Ex H1 H' := a2.trans e1
    refine gb_intro C fun X1 C1 => g_name (C1.ns h1 (by unfold locB; unfold lclB at h2; rw [h2]; rfl) (.inr h2)) ⟨hw v, ?_⟩
    show zEo X σ scope elt ((wipe σ (own.map (·.2))).set j (some v)) H' _
    refine eo_intro C fun X2 C2 O2 => zE_mono (he i v H' hlt eH y1 X2 C2 O2) fun z H4 ⟨e4, T, ez, eT⟩ => ?_
    subst ez
    have hD4 : H4 D = some (.lst ys) := e4 _ _ (e1 _ _ a1)
    have ne : T ≠ D := fun z => by rw [z, hD4] at eT; cases eT
    refine ⟨ys, hD4, small_lt (by omega), ys ++ [.ref T], upd_same, Xb.ex (eH.trans e4) hD .upd, by rw [List.length_append, a3]; rfl, fun t ht => ?_⟩
    by_cases e : t = i
    · subst e
      exact ⟨T, by rw [← a3]; simp, by rw [upd_ne ne]; exact eT⟩
    · obtain ⟨T', b1, b2⟩ := a4 t (by omega)
      have b3 : H4 T' = some (.tup (g t)) := e4 _ _ (e1 _ _ b2)
      exact ⟨T', by rw [List.getElem?_append_left (by omega)]; exact b1, by rw [upd_ne (fun z => by rw [z, hD4] at b3; cases b3)]; exact b3⟩
  · have e : i = n := by omega
    subst e
    exact .inl ⟨W.stop H2 (hS H2 a2), hd D ys H2 hD a2 a1 a3 a4⟩
end
/-! ### a lambda's captured names, its standing -/
def capB (N : List Str) (sc scope : Scope) (fr : List Str) (js : List Nat) : Bool :=
  scope.names.all (fun y => !decide (y.2 = .free) || ((sc.names.lookup y.1 == some .cell) || (sc.names.lookup y.1 == some .free))) && fr.all (fun y => decide ((y, NameKind.free) ∈ scope.names)) && decide (js.map (fun j => N[j]?) = fr.map some)
theorem caps_by {X : Cx} {P : Program} {w : World} {K : PySem.W.Frag} {mg : Str → Option Value} {base : Heap} {N : List Str} {sc scope : Scope} {k : Nat} {fr : List Str} {js : List Nat} (C : Ctx X P w K mg base N sc k) (ok : X.Ok) (h : capB N sc scope fr js = true) : Caps X (cloFrom X.env.cells scope.names []) fr js := by
  unfold capB at h
  simp only [Bool.and_eq_true, Bool.not_eq_true', decide_eq_true_eq, List.all_eq_true, Bool.or_eq_true, decide_eq_false_iff_not, beq_iff_eq] at h
  obtain ⟨⟨h1, h2⟩, h3⟩ := h
  refine Caps.made ok (fun y hy e => ?_) h2 (by rw [C.nms]; exact h3)
  rw [C.scp]
  exact (h1 y hy).elim (fun z => absurd e z) id
/-- the lambda F at f stands; its parameters get vs -/
structure LamK (F : LF) (vs : List V) (H : Hp) (f : Addr) : Prop where
  hf : H f = some (LamO f F)
  hc : H F.c = some (LamX.CodeO F.c F.qual)
  dv : DvO F vs H
theorem LamK.ex {F : LF} {vs : List V} {H H' : Hp} {f : Addr} (l : LamK F vs H f) (e : Ex H H') : LamK F vs H' f := ⟨e _ _ l.hf, e _ _ l.hc, l.dv.ex e⟩
theorem LamK.extN {F : LF} {vs : List V} {H H' : Hp} {f : Addr} (l : LamK F vs H f) (e : LamX.ExtN H H') : LamK F vs H' f :=
  ⟨e _ _ l.hf lamO_ne, e _ _ l.hc LamX.codeO_ne, l.dv.imp id fun ⟨tp, i, a, b, c⟩ => ⟨tp, i, a, e _ _ b (fun _ z => by cases z), c⟩⟩
theorem bnd_no {F : LF} (hp : F.params = ⟨[], [], none, [], [], none, []⟩) (hd : F.dv = none) : Bnd F [] := by
  obtain ⟨q, pa, b, sc, cl, c, dv⟩ := F
  have hp : pa = _ := hp
  have hd : dv = _ := hd
  subst hp hd
  exact ⟨fun _ => ⟨rfl, fun _ _ => rfl⟩, fun _ z => by cases z⟩
theorem bnd_one {F : LF} {a : Str} {po : Pos} {e : Expr} {tp : Addr} (hp : F.params = ⟨[], [⟨a, none, po⟩], none, [], [], none, [e]⟩) (hd : F.dv = some tp) : Bnd F [a] := by
  obtain ⟨q, pa, b, sc, cl, c, dv⟩ := F
  have hp : pa = _ := hp
  have hd : dv = _ := hd
  subst hp hd
  refine ⟨fun z => (by cases z), fun tp' z => ⟨a, rfl, fun pm ctv => ?_⟩⟩
  cases z
  refine ⟨?k, ?h1, fun v => ?h2⟩
  case h1 =>
    unfold bindArgs
    rfl
  case h2 =>
    simp [List.lookup]
end Z

/-! dicts, tuples in order, tuples put together -/
namespace Z
open PySem L2
/-- a subscript whose item is told behind -/
theorem subTail {prog : Program} {w : World} {A : Around} {E : Value → Shared → Prop} {s : Shared} {va sl : Expr} {o i : Value} {T id : String} {Q : Value → Shared → Prop} (hT : s.TypeIs o T) (hl : typeLookup (.type T) "__getitem__" = pure (some (.builtin id))) (hg : wpAny (model prog w) A (getItem o i) Q E s)
    (hs : subscripted sl false o i = operate [o, i] (getItem o i)) : wpAny (model prog w) A (PyProof.Rows.subscriptTail va sl o i) Q E s := by
  unfold PyProof.Rows.subscriptTail
  refine wpAny_bind ?_
  rw [PySem.getitemInPython_of_ne hT.not_modules]
  refine wpAny_bind (wpAny_specialOf hT hl ?_)
  have last : wpAny (model prog w) A (subscripted sl false o i) (fun r s1 => wpAny (model prog w) A (letTemporaryGo va o r >>= fun _ => pure r) Q E s1) E s := by
    rw [hs]
    exact wpAny_operating (thn hg fun r s1 h1 => wpAny_bind (PySem.wpAny_letTemporaryGo (wpAny_pure h1)))
  first
    | exact wpAny_pure (wpAny_bind last)
    | exact wpAny_bind (wpAny_pure (wpAny_bind last))
    | exact wpAny_bind last
section
variable {X : Cx} {P : Program} {w : World} {K : PySem.W.Frag} {mg : Str → Option Value} {base : Heap} {N : List Str} {sc : Scope} {k : Nat} {σ : St} {H : Hp} {Q : VK}
/-! ### dicts -/
theorem e_dict0 {pos : Pos} (h : ∀ p H', H p = none → Ex H H' → H' p = some (.dK []) → Q (.ref p) H') : zE X (.Dict [] [] pos) σ H Q := zE_of pe_dnewK fun p np => h p _ np (Evl.Ex.new np) upd_same
theorem o_inDk {y : V} {a : Addr} {o : Option V} (C : Ctx X P w K mg base N sc k) (g : DGet H a y o) (h : Q (.bl o.isSome) H) : zO X (compareOp .In) y (.ref a) H Q := by
  unfold zO
  intro ps s σ v u I rx ry
  obtain rfl : u = Value.ref a := ry
  exact d_in C.hu I g rx fun s3 I3 => ⟨.bl o.isSome, H, I3, rfl, h⟩
theorem o_ninDk {y : V} {a : Addr} {o : Option V} (C : Ctx X P w K mg base N sc k) (g : DGet H a y o) (h : Q (.bl (!o.isSome)) H) : zO X (compareOp .NotIn) y (.ref a) H Q := by
  unfold zO
  intro ps s σ v u I rx ry
  obtain rfl : u = Value.ref a := ry
  exact d_notIn C.hu I g rx fun s3 I3 => ⟨.bl (!o.isSome), H, I3, rfl, h⟩
theorem x_d {y v : V} {a : Addr} (C : Ctx X P w K mg base N sc k) (g : DGet H a y (some v)) (h : Q v H) : zX X (.ref a) y H Q := by
  unfold zX
  intro value slice ps s σ u iv I rx ry hs
  obtain rfl : u = Value.ref a := rx
  exact subTail (dict_typeIs I g) PySem.F.slot_dict_getitem.lookup (d_getItem C.hu I g ry fun w' s3 I3 rw' => ⟨v, H, I3, rw', h⟩) hs
theorem st_d {y v : V} {a : Addr} {H' : Hp} {QH : Hp → Prop} (C : Ctx X P w K mg base N sc k) (g : DPut H a y v H') (h : QH H') : zSet X (.ref a) y v H QH := by
  unfold zSet
  intro ps s σ ov iv u I ro ri rv
  obtain rfl : ov = Value.ref a := ro
  exact d_setItem C.hu I g ri rv fun s4 I4 => ⟨H', I4, h⟩
/-! ### tuples -/
theorem o_catT {a b : Addr} {xs ys : List V} (ha : SqT X.K H a xs) (hb : SqT X.K H b ys) (hx : xs ≠ []) (hy : ys ≠ []) (hz : xs.length + ys.length ≤ sizeLine) (h : ∀ p H', H p = none → Ex H H' → H' p = some (.tup (xs ++ ys)) → Q (.ref p) H') :
    zO X (binaryOp .Add) (.ref a) (.ref b) H Q := zO_of op_catT ⟨a, b, xs, ys, rfl, rfl, ha, hb, hx, hz, fun e => absurd e hy, fun _ p np => h p _ np (Evl.Ex.new np) upd_same⟩
/-- an item of a tuple beside another's: whether they are equal, and which is less if not -/
def CmpI (X : Cx) (H : Hp) (x y : V) (e r : Bool) : Prop := ∀ ps s σ u v, Inv X ps σ H s → RelV x u → RelV y v → SeqAt.EqAt X.A.in1 s u v e ∧ (e = false → Ob.RcOp .Lt X.A.in1 s u v r)
theorem cmp_int {i j : Int} : CmpI X H (.int i) (.int j) (decide (i = j)) (decide (i < j)) := by
  intro ps s σ u v I ru rv
  obtain ⟨t, rfl⟩ := ru
  obtain ⟨t', rfl⟩ := rv
  refine ⟨?_, fun _ => Ob.RcOp.lt_int _ _ _ _⟩
  have z : (i == j) = decide (i = j) := by
    by_cases q : i = j
    · rw [decide_eq_true q]; exact beq_iff_eq.mpr q
    · rw [decide_eq_false q]; exact beq_eq_false_iff_ne.mpr q
  rw [← z]
  exact SeqAt.EqAt.int_int _ _ _ _
theorem eqv_ints : ∀ (ns ms : List Int), PyData.eqvAll (ns.map .int) (ms.map .int) = decide (ns = ms)
  | [], [] => rfl
  | [], _ :: _ => rfl
  | _ :: _, [] => rfl
  | n :: ns, m :: ms => by
    show (PyData.eqv (.int n) (.int m) && PyData.eqvAll (ns.map .int) (ms.map .int)) = _
    rw [eqv_ints ns ms]
    have : PyData.eqv (.int n) (.int m) = decide (n = m) := by
      show (n == m) = _
      by_cases q : n = m
      · rw [decide_eq_true q]; exact beq_iff_eq.mpr q
      · rw [decide_eq_false q]; exact beq_eq_false_iff_ne.mpr q
    rw [this]
    by_cases q : n = m
    · subst q
      rw [decide_eq_true rfl, Bool.true_and]
      exact dec_cg ⟨fun e => by rw [e], fun e => by injection e⟩
    · rw [decide_eq_false q, Bool.false_and, decide_eq_false]
      exact fun e => q (by injection e)
theorem sh_ints : ∀ (ns : List Int), PyData.canLayAll0 (ns.map .int) = true
  | [] => rfl
  | n :: ns => by
    show (PyData.canLay0 (.int n) && PyData.canLayAll0 (ns.map .int)) = true
    rw [sh_ints ns]
    rfl
theorem dep_ints : ∀ (ns : List Int), PyData.depthAll (ns.map .int) ≤ 1
  | [] => by simp [PyData.depthAll]
  | n :: ns => by
    have := dep_ints ns
    simp [PyData.depthAll, PyData.depth] at this ⊢
    omega
theorem cmp_ints {a b : Addr} {ns ms : List Int} (C : Ctx X P w K mg base N sc k) (ha : SqT X.K H a (ns.map V.int)) (hb : SqT X.K H b (ms.map V.int)) : CmpI X H (.ref a) (.ref b) (decide (ns = ms)) (HT.lexLt ns ms) := by
  intro ps s σ u v I ru rv
  obtain rfl : u = Value.ref a := ru
  obtain rfl : v = Value.ref b := rv
  have hu := C.room.units
  constructor
  · obtain ⟨as, r1⟩ := Dp.reads I (.tuple (ns.map .int)) _ _ (.tup ha dp_ints) rfl
    obtain ⟨bs, r2⟩ := Dp.reads I (.tuple (ms.map .int)) _ _ (.tup hb dp_ints) rfl
    have e : PyData.eqv (.tuple (ns.map .int)) (.tuple (ms.map .int)) = decide (ns = ms) := eqv_ints ns ms
    rw [← e]
    refine SeqAt.eqAt_reads _ _ X.A.in1 s _ _ as bs r1 r2 (sh_ints ns) (sh_ints ms) ?_
    have d1 := dep_ints ns
    have : PyData.depth (.tuple (ns.map .int)) ≤ 2 := by simp [PyData.depth]; omega
    show X.A.units + 1 + _ < cLine
    have := Nat.min_le_left (PyData.depth (.tuple (ns.map .int))) (PyData.depth (.tuple (ms.map .int)))
    omega
  · intro _ prog w E Q' hq
    obtain ⟨its, r1, p1, _⟩ := I.tuple ha
    obtain ⟨its2, r2, p2, _⟩ := I.tuple hb
    have i1 : PyProof.Rows.IntsAre its.toArray.toList ns := intsAre_of r1
    have i2 : PyProof.Rows.IntsAre its2.toArray.toList ms := intsAre_of r2
    refine HT.lt_tupInts p1 p2 i1 i2 (by show X.A.units + 1 < cLine; omega) hq
theorem o_ltTup {a b : Addr} {xs ys : List V} {e r : Nat → Bool} (C : Ctx X P w K mg base N sc k) (ha : SqT X.K H a xs) (hb : SqT X.K H b ys) (hc : ∀ j x y, xs[j]? = some x → ys[j]? = some y → CmpI X H x y (e j) (r j))
    (h : Q (.bl (Ob.lexAt e r (decide (xs.length < ys.length)) 0 (min xs.length ys.length))) H) : zO X (compareOp .Lt) (.ref a) (.ref b) H Q := by
  unfold zO
  intro ps s σ v u I rx ry
  obtain rfl : v = Value.ref a := rx
  obtain rfl : u = Value.ref b := ry
  obtain ⟨its, r1, p1, _⟩ := I.tuple ha
  obtain ⟨its2, r2, p2, _⟩ := I.tuple hb
  have e1 : its.toArray.size = xs.length := by rw [List.size_toArray]; exact r1.length.symm
  have e2 : its2.toArray.size = ys.length := by rw [List.size_toArray]; exact r2.length.symm
  have at_ : ∀ j (h1 : j < its.toArray.size) (h2 : j < its2.toArray.size), SeqAt.EqAt X.A.in1 s its.toArray[j] its2.toArray[j] (e j) ∧ (e j = false → Ob.RcOp .Lt X.A.in1 s its.toArray[j] its2.toArray[j] (r j)) := fun j h1 h2 => by
    obtain ⟨x, hx⟩ : ∃ x, xs[j]? = some x := ⟨_, List.getElem?_eq_getElem (by omega)⟩
    obtain ⟨y, hy⟩ : ∃ y, ys[j]? = some y := ⟨_, List.getElem?_eq_getElem (by omega)⟩
    obtain ⟨u1, eu1, ru1⟩ := r1.get hx
    obtain ⟨u2, eu2, ru2⟩ := r2.get hy
    have g1 : its.toArray[j] = u1 := by
      have := (List.getElem?_eq_some_iff.mp eu1).2
      simpa using this
    have g2 : its2.toArray[j] = u2 := by
      have := (List.getElem?_eq_some_iff.mp eu2).2
      simpa using this
    rw [g1, g2]
    exact hc j x y hx hy ps s σ u1 u2 I ru1 ru2
  have R := Ob.RcOp.tuples_lt (A := X.A) (s := s) (e := e) (r := r) p1 p2 (by have := C.room.units; omega) (fun j h1 h2 => (at_ j h1 h2).1) fun j h1 h2 hj => (at_ j h1 h2).2 hj
  rw [e1, e2] at R
  have z : wpAny (model X.prog X.w) X.A (compareOp .Lt (.ref a) (.ref b)) (EP X ps σ Q) X.xe s := R X.prog X.w X.xe (EP X ps σ Q) ⟨.bl _, H, I, rfl, h⟩
  exact z
/-- an int in a tuple of ints -/
theorem inV_ints (i : Int) (ns : List Int) : inV (.int i) (ns.map V.int) = decide (i ∈ ns) := by
  unfold inV
  induction ns with
  | nil => rfl
  | cons n ns ih =>
    rw [List.map_cons, List.any_cons, ih]
    by_cases q : n = i
    · subst q
      rw [decide_eq_true (List.mem_cons_self ..)]
      simp [eqV]
    · have h1 : eqV (.int n) (.int i) = false := by simp [eqV, q]
      rw [h1, Bool.false_or]
      refine dec_cg ⟨fun h => List.mem_cons_of_mem _ h, fun h => ?_⟩
      rcases List.mem_cons.mp h with e | h
      · exact absurd e.symm q
      · exact h
theorem flat_ints (ns : List Int) : (ns.map V.int).all flatV = true := by
  induction ns with
  | nil => rfl
  | cons n ns ih => rw [List.map_cons, List.all_cons, ih]; rfl
theorem o_inTI {a : Addr} {i : Int} {ns : List Int} (ha : SqT X.K H a (ns.map V.int)) (h : Q (.bl (decide (i ∈ ns))) H) : zO X (compareOp .In) (.int i) (.ref a) H Q :=
  zO_of op_in_seq ⟨a, _, rfl, .inr ha, rfl, flat_ints ns, by show Q (.bl (inV _ _)) H; rw [inV_ints]; exact h⟩
theorem o_ninTI {a : Addr} {i : Int} {ns : List Int} (ha : SqT X.K H a (ns.map V.int)) (h : Q (.bl (!decide (i ∈ ns))) H) : zO X (compareOp .NotIn) (.int i) (.ref a) H Q :=
  zO_of op_notIn_seq ⟨a, _, rfl, .inr ha, rfl, flat_ints ns, by show Q (.bl (!inV _ _)) H; rw [inV_ints]; exact h⟩
/-- a list or a tuple, known at an earlier heap, is walked -/
theorem i_seq {tg l : Expr} {a : Addr} {xs : List V} {R : It → Hp → Prop} {H0 : Hp} (hml : SqL X.K H0 a xs ∨ SqT X.K H0 a xs) (e0 : Ex H0 H) (h : zE X l σ H fun x H1 => x = .ref a ∧ Ex H H1 ∧ ∀ J S, Walk J xs.length S (fun i x _ => xs[i]? = some x) → (∀ H', Ex H0 H' → S H') → R J H1) : zI X tg l σ H R := by
  rcases hml with h1 | h1
  · exact i_list (zE_mono h fun v H1 ⟨e, e1, q⟩ => ⟨a, e, ⟨xs, ex_l (e0.trans e1) h1⟩, q _ _ (walk_list a xs) fun H' e2 => ex_l e2 h1⟩)
  · exact i_tup (zE_mono h fun v H1 ⟨e, e1, q⟩ => ⟨a, e, ⟨xs, ex_t (e0.trans e1) h1⟩, q _ _ (walk_tup a xs) fun H' e2 => ex_t e2 h1⟩)
end
end Z

/-! sets of tuples of ints: set(), x in s, s.add(x) -/
namespace Z
open PySem L2 PyProof.Rows
section
variable {P : Program} {w : World} {A : Around} {E : Value → Shared → Prop} {s : Shared} {a : Addr} {L : List (Addr × List Int)} {es : Array (Int × Value)} {ep : Nat} {t : SetTable}
/-- the c-th place that the search for the hash h looks at -/
def rn (t : SetTable) (h : Int) (c : Nat) : SetTable.Probe := nth t.mask (runAt t.mask (SetTable.bits h % (t.mask + 1)) (SetTable.bits h)) c
theorem rn_way (t : SetTable) (h : Int) (c : Nat) : (rn t h c).j = way t.mask h c := rfl
theorem rn_add (t : SetTable) (h : Int) (c q : Nat) : nth t.mask (rn t h c) q = rn t h (c + q) := (nth_add t.mask c _ q).symm
theorem adv_dummy (m : Nat) (p : SetTable.Probe) (e : p.dummy = none) : (adv m p).dummy = none := by
  unfold adv
  by_cases c : p.more > 0
  · rw [if_pos c]; exact e
  · rw [if_neg c]; exact e
theorem nth_dummy (m : Nat) : ∀ (n : Nat) (p : SetTable.Probe), p.dummy = none → (nth m p n).dummy = none
  | 0, _, e => e
  | n + 1, p, e => nth_dummy m n (adv m p) (adv_dummy m p e)
/-- a search that adds nothing -/
theorem find_from (R : SetTR P w s.heap a L es ep t) {x : Addr} {ns : List Int} (tx : IsT P w s.heap ns x) (ur : A.units < cLine) {K : Nat} (kn : way t.mask (thash P w ns) K ∉ t.place.toList)
    (kb : ∀ c, c < K → way t.mask (thash P w ns) c ∈ t.place.toList) (kf : K < 10 * SetTable.turns t.mask) {Q : SetFound → Shared → Prop}
    (yes : ns ∈ L.map (·.2) → ∀ i, Q (.there (some i)) s) (no : ns ∉ L.map (·.2) → Q (.free (way t.mask (thash P w ns) K) false) s) :
    ∀ (f c : Nat) (st : Option SetTable.Probe), st.getD (t.probeStart (thash P w ns)) = rn t (thash P w ns) c → c ≤ K → K - c < f →
      (∀ (i : Nat) p, L[i]? = some p → p.2 = ns → ∃ d, c ≤ d ∧ d < K ∧ t.place.toList[i]? = some (way t.mask (thash P w ns) d)) →
      wpAny (model P w) A (setSearchFrom a (.ref x) (thash P w ns) false f st) Q E s
  | 0, _, _, _, _, lt, _ => absurd lt (Nat.not_lt_zero _)
  | f + 1, c, st, es0, cK, lt, rc => by
    obtain ⟨ob, gob, xob, dob⟩ := R.ob
    rw [setSearchFrom_succ]
    refine wpAny_bind (wpAny_setState_of gob dob R.fits ?_)
    dsimp only
    refine wp_if_neg R.gw ?_
    try refine wpAny_bind (wpAny_pure ?_)
    have hs : ∀ (i : Nat) p, L[i]? = some p → ((es[i]?.map (·.1)).getD 0) = thash P w p.2 := fun i p e => by rw [R.entry e]; rfl
    have sp := go_spec t R.tab.ris R.tab.dm (fun i => (es[i]?.map (·.1)).getD 0) (thash P w ns) (10 * SetTable.turns t.mask) (K - c) (rn t (thash P w ns) c) (nth_dummy _ _ _ rfl) (by omega)
      (fun q lq => by rw [rn_add, rn_way]; exact kb (c + q) (by omega)) (by rw [rn_add, rn_way, show c + (K - c) = K by omega]; exact kn)
    rcases sp with ⟨q, i, lq, hi, hh, hno, pr⟩ | ⟨hno, pr⟩
    · have pr2 : t.probe (fun i => (es[i]?.map (·.1)).getD 0) (thash P w ns) (st.getD (t.probeStart (thash P w ns))) = some (.candidate (way t.mask (thash P w ns) (c + q)) i (rn t (thash P w ns) (c + (q + 1)))) := by
        rw [es0, ← rn_way, ← rn_add, ← rn_add]
        exact pr
      rw [pr2]
      dsimp only
      rw [rn_add, rn_way] at hi
      have li : i < L.length := by
        have z1 : i < t.place.toList.length := (List.getElem?_eq_some_iff.mp hi).1
        have z2 := R.tab.sz
        rw [List.length_map] at z2
        rw [Array.length_toList] at z1
        omega
      obtain ⟨p, gp⟩ : ∃ p, L[i]? = some p := ⟨_, List.getElem?_eq_getElem li⟩
      have mp : p ∈ L := List.mem_of_getElem? gp
      have go : wpAny (model P w) A (searchRest a (.ref x) (thash P w ns) false f es t (way t.mask (thash P w ns) (c + q)) i (rn t (thash P w ns) (c + (q + 1)))) Q E s := by
        unfold searchRest
        rw [R.entry gp]
        dsimp only
        refine wpAny_bind (wpAny_holding (wpAny_eqBool_tuple ur (R.tup p mp) tx ?_))
        refine wpAny_bind (wpAny_setState_of gob dob R.fits ?_)
        dsimp only
        refine wp_if_neg (by simp) ?_
        try refine wpAny_bind (wpAny_pure ?_)
        rw [sameMem]
        dsimp only
        have lv : t.slot (way t.mask (thash P w ns) (c + q)) = .live i := slot_live R.tab.ris hi
        simp only [if_true, lv, R.entry gp]
        refine wpAny_bind (wpAny_isSame_ref_self (wpAny_bind (wpAny_pure ?_)))
        simp only [if_true]
        by_cases ek : p.2 = ns
        · refine wp_if_pos (by simp [ek]) (wpAny_pure (yes (List.mem_map.mpr ⟨p, mp, ek⟩) i))
        · refine wp_if_neg (by simp [ek]) ?_
          refine find_from R tx ur kn kb kf yes no f (c + (q + 1)) _ rfl (by omega) (by omega) fun i2 p2 g2 k2 => ?_
          obtain ⟨d, a1, a2, a3⟩ := rc i2 p2 g2 k2
          refine ⟨d, ?_, a2, a3⟩
          rcases Nat.lt_trichotomy d (c + q) with z | z | z
          · refine absurd ((hs i2 p2 g2).trans (congrArg (thash P w) k2)) (hno (d - c) i2 (by omega) ?_)
            rw [rn_add, rn_way, show c + (d - c) = d by omega]
            exact a3
          · rw [z] at a3
            have lv2 := slot_live R.tab.ris a3
            rw [lv] at lv2
            injection lv2 with ei
            rw [← ei, gp] at g2
            exact absurd ((congrArg Prod.snd (Option.some.inj g2)).trans k2) ek
          · omega
      by_cases hl : t.led = true
      · refine wp_if_neg (by simp [hl]) ?_
        try refine wpAny_bind (wpAny_pure ?_)
        exact go
      · refine wp_if_pos (by simp [hl]) ?_
        refine wpAny_bind (seen_tup tx (fun y my => ?_) ?_)
        · obtain ⟨e, me, rfl⟩ := List.mem_map.mp my
          have me2 : e ∈ es.toList := by
            have : e ∈ es ∧ e.1 = thash P w ns := by simpa using me
            simpa using this.1
          rw [R.rows] at me2
          obtain ⟨p2, mp2, rfl⟩ := List.mem_map.mp me2
          exact ⟨p2.2, p2.1, rfl, R.tup p2 mp2⟩
        · refine wp_if_neg (by decide) ?_
          try refine wpAny_bind (wpAny_pure ?_)
          exact go
    · have pr2 : t.probe (fun i => (es[i]?.map (·.1)).getD 0) (thash P w ns) (st.getD (t.probeStart (thash P w ns))) = some (.empty (way t.mask (thash P w ns) K) none) := by
        rw [es0, show way t.mask (thash P w ns) K = (nth t.mask (rn t (thash P w ns) c) (K - c)).j by rw [rn_add, rn_way, show c + (K - c) = K by omega]]
        exact pr
      rw [pr2]
      dsimp only
      refine wpAny_pure (no fun mem => ?_)
      obtain ⟨p0, m0, k0⟩ := List.mem_map.mp mem
      obtain ⟨i0, l0, g0⟩ := List.getElem_of_mem m0
      have g1 : L[i0]? = some p0 := by rw [List.getElem?_eq_getElem l0, g0]
      obtain ⟨d, a1, a2, a3⟩ := rc i0 p0 g1 k0
      refine absurd ((hs i0 p0 g1).trans (congrArg (thash P w) k0)) (hno (d - c) i0 (by omega) ?_)
      rw [rn_add, rn_way, show c + (d - c) = d by omega]
      exact a3
theorem find_tup (R : SetTR P w s.heap a L es ep t) {x : Addr} {ns : List Int} (tx : IsT P w s.heap ns x) (ur : A.units < cLine) {Q : Option Nat → Shared → Prop}
    (yes : ns ∈ L.map (·.2) → ∀ i, Q (some i) s) (no : ns ∉ L.map (·.2) → Q none s) : wpAny (model P w) A (setFind a (.ref x) (thash P w ns)) Q E s := by
  obtain ⟨ob, gob, xob, dob⟩ := R.ob
  have rm := R.room
  obtain ⟨K, kf, kn, kb⟩ := R.tab.first (by rw [List.length_map]; omega) (thash P w ns)
  have big : K < 100000 := by
    have : 10 * SetTable.turns t.mask ≤ 1420 := by
      unfold SetTable.turns
      rcases R.tab.mok with e | e | e <;> omega
    omega
  unfold setFind
  rw [show (100000 : Nat) = 99999 + 1 from rfl]
  unfold setFindIn
  refine wpAny_bind (wpAny_setState_of gob dob R.fits ?_)
  dsimp only
  refine wp_if_neg (by simp [byScan, Value.scannable]) ?_
  try refine wpAny_bind (wpAny_pure ?_)
  unfold setSearch
  refine wpAny_bind (find_from R tx ur kn kb kf (Q := fun r s' => _) (fun h i => ?_) (fun h => ?_) 100000 0 none rfl (Nat.zero_le _) (by omega) fun i p gp ek => ?_)
  · exact wpAny_pure (yes h i)
  · exact wpAny_pure (no h)
  · have hi : (L.map fun p => thash P w p.2)[i]? = some (thash P w ns) := by rw [List.getElem?_map, gp, ← ek]; rfl
    have li : i < t.place.toList.length := by
      have z1 : i < L.length := (List.getElem?_eq_some_iff.mp gp).1
      have z2 := R.tab.sz
      rw [List.length_map] at z2
      rw [Array.length_toList]
      omega
    have hj := List.getElem?_eq_getElem li
    obtain ⟨c, hc, e⟩ := R.tab.before kn hi hj
    exact ⟨c, Nat.zero_le _, hc, by rw [hj, e]⟩
end
end Z

/-! .. as rules -/
namespace Z
open PySem L2 PyProof.Rows
section
variable {P : Program} {w : World} {A : Around} {E : Value → Shared → Prop} {s : Shared} {a : Addr} {L : List (Addr × List Int)} {es : Array (Int × Value)} {ep : Nat} {t : SetTable}
theorem setT_ty (R : SetTR P w s.heap a L es ep t) : s.TypeIs (.ref a) "set" := by
  obtain ⟨o, g, x, _⟩ := R.ob
  exact ⟨o, g, x.1⟩
theorem setT_nd (R : SetTR P w s.heap a L es ep t) : ∀ b, Value.ref a = .ref b → ∃ ob, s.heap.get? b = some ob ∧ ob.dict = none := fun b e => by
  cases e
  obtain ⟨o, g, x, _⟩ := R.ob
  exact ⟨o, g, x.2.1⟩
/-- x in s -/
theorem in_setT (R : SetTR P w s.heap a L es ep t) {x : Addr} {ns : List Int} (tx : IsT P w s.heap ns x) (ur : A.units + 3 < cLine) {Q : Value → Shared → Prop} (q : ∀ tk, Q (.bool (decide (ns ∈ L.map (·.2)))) { s with toks := tk }) :
    wpAny (model P w) A (compareOp .In (.ref x) (.ref a)) Q E s := by
  have ty := setT_ty R
  show wpAny _ _ (do return .bool (← contains (.ref a) (.ref x))) Q E s
  refine wpAny_bind ?_
  unfold contains
  try with_reducible refine wpAny_holding ?_
  refine wpAny_bind (wpAny_specialOf ty F.slot_set_contains.lookup ?_)
  refine wp_if_neg (by rw [beq_builtin_none]; exact Bool.false_ne_true) ?_
  refine wpAny_bind (wpAny_callSpecialUnlessNone?_slot (name := Str.ofString "__contains__") ty F.slot_set_contains (wpAny_call_entry F.slot_set_contains ty PySem.entry_set_contains ?_ (F.args_set_contains_2 _ _)))
  unfold Builtin.«frozenset.__contains__»
  unfold Builtin.Frozenset.oneOther
  simp only [List.isEmpty_nil, bind_assoc]
  unfold Builtin.Frozenset.withSetAsKey Builtin.Frozenset.addrOf setContains
  refine wpAny_bind (wpAny_pure ?_)
  try dsimp only
  refine wpAny_bind (wpAny_pure ?_)
  try dsimp only
  refine wpAny_bind (wpAny_tryCatch (wpAny_holding ?_))
  refine wpAny_bind (wpAny_pyHash_tuple (show _ < cLine by simp only [Around.in1]; omega) tx ?_)
  have R2 : SetTR P w ({ s with toks := s.toks + (ns.length + 1) } : Shared).heap a L es ep t := R
  refine wpAny_bind (find_tup R2 tx (show _ < cLine by simp only [Around.in1]; omega) (Q := fun r s' => _) (fun h i => ?_) fun h => ?_)
  · refine wpAny_pure ?_
    show wpAny _ _ (ret (Value.bool true)) _ _ _
    have := q (s.toks + (ns.length + 1))
    rw [decide_eq_true h] at this
    exact wpAny_pure ⟨_, rfl, wpAny_truthy_bool (wpAny_pure this)⟩
  · refine wpAny_pure ?_
    show wpAny _ _ (ret (Value.bool false)) _ _ _
    have := q (s.toks + (ns.length + 1))
    rw [decide_eq_false h] at this
    exact wpAny_pure ⟨_, rfl, wpAny_truthy_bool (wpAny_pure this)⟩
/-- s.add(x) -/
theorem add_setT (R : SetTR P w s.heap a L es ep t) {x : Addr} {ns : List Int} (tx : IsT P w s.heap ns x) (ur : A.units + 3 < cLine) (few : L.length + 1 < 64) {Q : Value → Shared → Prop}
    (q : ∀ (h' : Heap) (tk : Nat) L' es' ep' t', Heap.SameBut a s.heap h' → SetTR P w h' a L' es' ep' t' → (ns ∈ L.map (·.2) → L' = L) → (ns ∉ L.map (·.2) → L'.Perm ((x, ns) :: L)) → Q .none { s with heap := h', toks := tk }) :
    wpAny (model P w) A (call (.builtin "set.add") [.ref a, .ref x]) Q E s := by
  refine wpAny_call_entry F.slot_set_add (setT_ty R) F.entry_set_add ?_ (F.args_set_add_2 _ _)
  unfold Builtin.«set.add»
  unfold Builtin.Frozenset.oneOther
  simp only [List.isEmpty_nil, bind_assoc]
  unfold setAdd Builtin.Frozenset.addrOf
  refine wpAny_bind (wpAny_pure ?_)
  try dsimp only
  refine wpAny_bind (wpAny_pure ?_)
  try dsimp only
  refine wpAny_bind (wpAny_holding ?_)
  refine wpAny_bind (wpAny_pyHash_tuple (show _ < cLine by simp only [Around.in1]; omega) tx ?_)
  refine add_at (s := { s with toks := s.toks + (ns.length + 1) }) R tx (show _ < cLine by simp only [Around.in1]; omega) few fun b h' L' es' ep' t' sb R' c1 c2 => ?_
  show wpAny _ _ (ret Value.none) _ _ _
  exact wpAny_pure ⟨_, rfl, q h' _ L' es' ep' t' sb R' c1 c2⟩
end
section
variable {X : Cx} {P : Program} {w : World} {K : PySem.W.Frag} {mg : Str → Option Value} {base : Heap} {N : List Str} {sc : Scope} {k : Nat} {σ : L2.St} {H : Hp} {Q : VK}
/-- set() -/
theorem e_set0 {p pos : Pos} (C : Ctx X P w K mg base N sc k) (hm : mg "set" = none) (h : ∀ p H', H p = none → Ex H H' → H' p = some (SetTO P w p []) → Q (.ref p) H') (hg : gloB sc "set" = true := by decide +kernel) : zE X (.Call (.Name "set" p) [] [] pos) σ H Q := by
  refine zE_of (pe_callTy0 (T := "set") (r := fun xs H Q => xs = [] ∧ ∀ p H', H p = none → Ex H H' → H' p = some (SetTO P w p []) → Q (.ref p) H') (fun pins s σ H xs us Q I r h => ?_) (C.gl hg) (by rw [C.mgl]; exact hm) rfl) ⟨rfl, h⟩
  obtain ⟨rfl, q⟩ := h
  cases r
  refine setR_new fun _ => ?_
  have nS : H s.heap.objs.size = none := I.hok.fresh (Nat.le_refl _)
  refine ⟨.ref s.heap.objs.size, upd H s.heap.objs.size (SetTO P w s.heap.objs.size []), I.laid (t' := s.toks) (fun b u e => Heap.get?_push_of_some _ e) (Nat.le_refl _) ?_, rfl, q _ _ nS (Evl.Ex.new nS) upd_same⟩
  rw [← C.prog, ← C.wld]
  exact setTO_new (setTR_fresh (Heap.get?_push_size _ rfl)).t0
theorem setTO_full {ps : List (Addr × Obj)} {s : Shared} {a : Addr} {L : List (Addr × List Int)} (C : Ctx X P w K mg base N sc k) (I : L2.Inv X ps σ H s) (ha : H a = some (SetTO P w a L)) (ht : ∀ p ∈ L, SqT X.K H p.1 (p.2.map V.int)) : ∃ es ep t, SetTR P w s.heap a L es ep t := by
  have R : SetT0 P w s.heap a L := (I.hok a _ ha).1
  refine R.full fun p hp => ?_
  have := I.isT (ht p hp)
  rw [C.prog, C.wld] at this
  exact this
/-- x in s -/
theorem o_inSetT {x a : Addr} {ns : List Int} {L : List (Addr × List Int)} (C : Ctx X P w K mg base N sc k) (hx : SqT X.K H x (ns.map V.int)) (ha : H a = some (SetTO P w a L)) (ht : ∀ p ∈ L, SqT X.K H p.1 (p.2.map V.int)) (h : Q (.bl (decide (ns ∈ L.map (·.2)))) H) :
    zO X (compareOp .In) (.ref x) (.ref a) H Q := by
  unfold zO
  intro ps s σ v u I rx ry
  obtain rfl : v = Value.ref x := rx
  obtain rfl : u = Value.ref a := ry
  obtain ⟨es, ep, t, R⟩ := setTO_full C I ha ht
  have tx := I.isT hx
  have hu := C.room.units
  rw [C.prog, C.wld] at tx ⊢
  exact in_setT R tx (by omega) fun tk => ⟨.bl _, H, I.tok tk, rfl, h⟩
theorem a_one {e : Expr} {R : VK} (hs : starEach [e] X.env = (false, eval e X.env) :: starEach [] X.env) (h : zE X e σ H R) : zA X [e] σ H fun vs H2 => ∃ y, vs = [y] ∧ R y H2 := a_cons (zE_mono h fun y H2 q => a_nil ⟨y, rfl, q⟩) hs
/-- s.add(x) -/
theorem e_sadd {o e : Expr} {ap cp : Pos} (C : Ctx X P w K mg base N sc k) (h : zE X o σ H fun v H1 => ∃ a L, v = .ref a ∧ H1 a = some (SetTO P w a L) ∧ (∀ p ∈ L, SqT X.K H1 p.1 (p.2.map V.int)) ∧ zE X e σ H1 fun y H2 => ∃ x ns, y = .ref x ∧ H2 a = some (SetTO P w a L) ∧ SqT X.K H2 x (ns.map V.int) ∧ (∀ p ∈ L, SqT X.K H2 p.1 (p.2.map V.int)) ∧ L.length + 1 < 64 ∧
      ∀ L' H3, Xb a H2 H3 → H3 a = some (SetTO P w a L') → (ns ∈ L.map (·.2) → L' = L) → (ns ∉ L.map (·.2) → L'.Perm ((x, ns) :: L)) → Q .non H3)
    (hbase : attributeBase o "add" X.env (eval o X.env) = eval o X.env := by rfl)
    (hfew : ((backTo cp (starEach [e] X.env)).all (fun x => !x.1) && (backToKw cp (keywordEach [] X.env)).all (fun x => x.1.isSome) && decide ([e].length + ([] : List Keyword).length + (if ([] : List Keyword).isEmpty then 0 else 1) < 30)) = true := by rfl)
    (hline : (ap.endLine == cp.line) = true := by rfl) (hs : starEach [e] X.env = (false, eval e X.env) :: starEach [] X.env := by rfl) (hpl : (backTo cp (starEach [] X.env)).any (·.1) = false := by rfl) :
    zE X (.Call (.Attribute o "add" ap) [e] [] cp) σ H Q := by
  unfold zE
  intro ps s I
  refine wpAny_Call_method_late hbase hfew hline rfl (thn ((zE_ok o).run ps s σ H _ I h) fun v s1 ⟨x, H1, I1, r1, a, L, ex, ha, ht, q1⟩ => ?_)
  subst ex
  obtain rfl : v = Value.ref a := r1
  obtain ⟨es, ep, t, R⟩ := setTO_full C I1 ha ht
  refine ⟨"set", "set.add", F.plainAttrs_set, F.slot_set_add, F.type_set_add, setT_ty R, setT_nd R, ?_⟩
  have hA := (zA_ok [e]).run cp ps s1 σ H1 _ I1 (a_one hs q1)
  rw [hs] at hA ⊢
  refine Calls.callWith_builtin (by show (false || (backTo cp (starEach [] X.env)).any (·.1)) = false; rw [hpl]; rfl) (Calls.evalArgs_plain ?_)
  refine thn hA fun us s2 ⟨vs, H2, I2, r2, y, ev, x, ns, ey, ha2, hx, ht2, few, q2⟩ => ?_
  subst ev ey
  obtain ⟨es2, ep2, t2, R2⟩ := setTO_full C I2 ha2 ht2
  have tx := I2.isT hx
  have hu := C.room.units
  cases r2 with
  | cons ry rt =>
    cases rt
    cases (show _ = Value.ref x from ry)
    rw [C.prog, C.wld] at tx
    have hprog := C.prog
    have hwld := C.wld
    subst hprog hwld
    refine add_setT R2 tx (by omega) few fun h' tk L' es' ep' t' sb R' c1 c2 => ?_
    have he : ∃ u, h'.get? a = some u := by
      obtain ⟨ob, g, _⟩ := R'.ob
      exact ⟨ob, g⟩
    exact ⟨.non, upd H2 a (SetTO X.prog X.w a L'), I2.write (e := a) (t' := tk) (by rw [ha2]; trivial) (.inl rfl) (fun b u hb hu => (sb.2 b hb).trans hu) he (setTO_new R'.t0), rfl, q2 L' _ Xb.upd upd_same c1 c2⟩
end
end Z

/-! slices of tuples; classes: fields, constants, methods, makers with keywords -/
namespace Z
open PySem L2
section
variable {X : Cx} {P : Program} {w : World} {K : PySem.W.Frag} {mg : Str → Option Value} {base : Heap} {N : List Str} {sc : Scope} {k : Nat} {σ : L2.St} {H : Hp} {Q : VK} {nx bk ct : L2.St → Hp → Prop} {rt : VK}
theorem t_sl {a : Addr} {xs : List V} {lo hi : Option Int} (hl : SqT X.K H a xs) (h : ∀ p H', Ex H H' → SqT X.K H' p (cutV xs lo hi) → Q (.ref p) H') : zSl X (.ref a) lo hi H Q :=
  zSl_of sl_tupA ⟨a, xs, rfl, hl, fun ⟨h1, h2⟩ => h a H (Evl.Ex.refl _) (by
    have : cutV xs lo hi = xs := by unfold cutV; rw [h1, h2]; simp
    rw [this]; exact hl), fun _ p np => h p _ (Evl.Ex.new np) (SqT.of upd_same)⟩
/-! ### fields -/
theorem e_fld {o : Expr} {f : Str} {pos : Pos} (h : zE X o σ H fun x H1 => ∃ a C dx fs v, x = .ref a ∧ H1 a = some (.ins C dx fs) ∧ Cls X.K C ∧ NoAttr X.K C f ∧ fs.lookup f = some v ∧ Q v H1) (hb : attributeBase o f X.env (eval o X.env) = eval o X.env := by rfl) : zE X (.Attribute o f pos) σ H Q := zE_of (pe_fld (zE_ok o) hb) h
theorem s_fld {o e : Expr} {f : Str} {p' pos : Pos} (h : zE X e σ H fun y H1 => zE X o σ H1 fun x H2 => ∃ a C dx fs, x = .ref a ∧ H2 a = some (.ins C dx fs) ∧ Cls X.K C ∧ NoAttr X.K C f ∧ fs.length < 1000 ∧ nx σ (upd H2 a (.ins C dx (putF f y fs))))
    (hs : swapsWith e (some (.Attribute o f p')) pos.line X.env = pure false := by rfl) : zS X (.Assign [.Attribute o f p'] e pos) nx rt bk ct σ H := zS_of (ps_fld (zE_ok o) (zE_ok e) hs) h
/-- a constant read off a class -/
structure ClsC (K : PySem.W.Frag) (C : Addr) (f : Str) (v : V) : Prop where
  ex : ∃ mc u, ClX.CRead K C mc ∧ ClX.CVal K C mc f v u
theorem e_gref {x : Str} {a : Addr} {p : Pos} (C : Ctx X P w K mg base N sc k) (g : mg x = some (.ref a)) (h : Q (.ref a) H) (hg : gloB sc x = true := by decide +kernel) (hd : (x == ("__debug__" : Str)) = false := by decide) : zE X (.Name x p) σ H Q := by
  unfold zE
  intro ps s I
  have hgl := C.gl hg
  refine ld_glob I hgl (by rw [C.mgl]; exact g) ⟨.ref a, H, I, rfl, h⟩ hd
theorem e_cval {x f : Str} {CA : Addr} {v : V} {p pos : Pos} (C : Ctx X P w K mg base N sc k) (g : mg x = some (.ref CA)) (c : ClsC K CA f v) (h : Q v H) (hg : gloB sc x = true := by decide +kernel) (hd : (x == ("__debug__" : Str)) = false := by decide)
    (hb : attributeBase (.Name x p) f X.env (eval (.Name x p) X.env) = eval (.Name x p) X.env := by rfl) : zE X (.Attribute (.Name x p) f pos) σ H Q := by
  obtain ⟨mc, u, h1, h2⟩ := c.ex
  refine zE_of (ClX.pe_cval (zE_ok _) hb) (e_gref C g ?_ hg hd)
  rw [← C.frg] at h1 h2
  exact ⟨CA, mc, v, u, rfl, h1, h2, h⟩
/-! ### methods -/
/-- a method m of the class at CA: its promise holds up to level j -/
structure CalM (P : Program) (w : World) (K : PySem.W.Frag) (mg : Str → Option Value) (base : Heap) (CX : CXT) (CA : Addr) (m : Str) (j : Nat) (n : Nat) (sp : Sp) : Prop where
  ex : ∃ (f : Addr) (fd : FuncData) (ps : List Str), FnOk P w K mg base CX j f fd ps sp ∧ Cls K CA ∧ Meth K CA m f ∧ Binds K fd ps [] ∧ ps.length = n
theorem e_meth {CX : CXT} {CA : Addr} {m : Str} {j n : Nat} {sp : Sp} {E : XK} {o e : Expr} {es : List Expr} {ap pos : Pos} {pl : Sem Bool} (C : Ctx X P w K mg base N sc k) (c : CalM P w K mg base CX CA m j n sp) (hj : j ≤ k) (hx : Passes CX X E)
    (h : zE X o σ H fun x H1 => ∃ a dx fs, x = .ref a ∧ H1 a = some (.ins CA dx fs) ∧ fs.lookup m = none ∧ zA X (e :: es) σ H1 fun vs H2 => sp (x :: vs) H2 Q E)
    (hst : starEach (e :: es) X.env = (false, eval e X.env) :: starEach es X.env := by rfl) (hpl : (backTo pos (starEach es X.env)).any (·.1) = false := by rfl)
    (ht : eval (.Call (.Attribute o m ap) (e :: es) [] pos) X.env = (do
      let ov ← eval o X.env
      standAt ap.atName
      let (f, first) ← holding [ov] (getMethod ov m pl)
      callWith pos f first (backTo pos (starEach (e :: es) X.env)) (backToKw pos (keywordEach [] X.env))) := by rfl) : zE X (.Call (.Attribute o m ap) (e :: es) [] pos) σ H Q := by
  obtain ⟨f, fd, ps, F, h1, h2, h3, h4⟩ := c.ex
  obtain ⟨rfl, rfl, rfl, rfl, rfl, _, _, _, hr, _, _⟩ := C
  refine zE_of (pe_meth (dvs := []) (zE_ok o) h1 h2 F (hr.mono hj) h3 .nil hx (zA_ok _) hst hpl ht) ?_
  refine zE_mono h fun x H1 ⟨a, dx, fs, e1, e2, e3, q⟩ => ⟨a, dx, fs, e1, e2, e3, ?_⟩
  simp only [List.append_nil]
  exact q
theorem e_meth0 {CX : CXT} {CA : Addr} {m : Str} {j n : Nat} {sp : Sp} {E : XK} {o : Expr} {ap pos : Pos} {pl : Sem Bool} (C : Ctx X P w K mg base N sc k) (c : CalM P w K mg base CX CA m j n sp) (hj : j ≤ k) (hx : Passes CX X E)
    (h : zE X o σ H fun x H1 => ∃ a dx fs, x = .ref a ∧ H1 a = some (.ins CA dx fs) ∧ fs.lookup m = none ∧ sp [x] H1 Q E)
    (ht : eval (.Call (.Attribute o m ap) [] [] pos) X.env = (do
      let ov ← eval o X.env
      standAt ap.atName
      let (f, first) ← holding [ov] (getMethod ov m pl)
      callWith pos f first (backTo pos (starEach [] X.env)) (backToKw pos (keywordEach [] X.env))) := by rfl) : zE X (.Call (.Attribute o m ap) [] [] pos) σ H Q := by
  obtain ⟨f, fd, ps, F, h1, h2, h3, h4⟩ := c.ex
  obtain ⟨rfl, rfl, rfl, rfl, rfl, _, _, _, hr, _, _⟩ := C
  refine zE_of (pe_meth0 (dvs := []) (zE_ok o) h1 h2 F (hr.mono hj) h3 .nil hx ht) ?_
  refine zE_mono h fun x H1 ⟨a, dx, fs, e1, e2, e3, q⟩ => ⟨a, dx, fs, e1, e2, e3, ?_⟩
  exact q
/-! ### makers -/
/-- the class x at CA, made with n values and the keywords ks (their values come behind) -/
structure CalK (P : Program) (w : World) (K : PySem.W.Frag) (mg : Str → Option Value) (base : Heap) (CX : CXT) (x : Str) (CA : Addr) (j n : Nat) (ks : List Str) (sp : Sp) : Prop where
  ex : ∃ (f : Addr) (fd : FuncData) (ps : List Str), Mk K CA f ∧ FnOk P w K mg base CX j f fd ps sp ∧ mg x = some (.ref CA) ∧ KBn K fd ps (n + 1) ks (fun us ws => us ++ ws) (fun vs zs => vs ++ zs)
theorem e_makeK {CX : CXT} {x : Str} {CA : Addr} {j n : Nat} {ks : List Str} {sp : Sp} {E : XK} {e v : Expr} {es : List Expr} {nm : Str} {kp p pos : Pos} (C : Ctx X P w K mg base N sc k) (c : CalK P w K mg base CX x CA j n ks sp) (hj : j + 1 ≤ k) (hx : Passes CX X E)
    (h : zA X (e :: es) σ H fun vs H1 => zE X v σ H1 fun z H2 => vs.length = n ∧ ks.length = 1 ∧ ∀ a dx, H2 a = none → H2 dx = none → dx ≠ a → sp (.ref a :: (vs ++ [z])) (upd (upd H2 dx (.own a)) a (.ins CA dx [])) (fun u H3 => u = .non ∧ Q (.ref a) H3) E)
    (hg : gloB sc x = true := by decide +kernel) (hall : (backToKw pos (keywordEach [⟨some nm, v, kp⟩] X.env)).all (·.1.isSome) = true := by rfl) (hks : (backToKw pos (keywordEach [⟨some nm, v, kp⟩] X.env)).filterMap (·.1) = ks := by rfl) (hdb : (x == ("__debug__" : Str)) = false := by decide)
    (he : starEach (e :: es) X.env = (false, eval e X.env) :: starEach es X.env := by rfl) (hpl : ((backTo pos (starEach (e :: es) X.env)).any (·.1) || (backToKw pos (keywordEach [⟨some nm, v, kp⟩] X.env)).any (·.1.isNone)) = false := by rfl)
    (hkv : PK X [⟨some nm, v, kp⟩] (tCons (zE X v) tNil) := by exact pk_cons (zE_ok v) pk_nil) :
    zE X (.Call (.Name x p) (e :: es) [⟨some nm, v, kp⟩] pos) σ H Q := by
  obtain ⟨f, fd, ps, M, F, h1, hb⟩ := c.ex
  have hgl := C.gl hg
  obtain ⟨rfl, rfl, rfl, rfl, rfl, _, _, _, hr, _, _⟩ := C
  refine zE_of (pe_makeK M F (hr.mono hj) hgl h1 hb hx (zA_ok _) hkv hall hks hdb he hpl) ?_
  refine zA_mono h fun vs H1 q => ?_
  refine zE_mono q fun z H2 ⟨l1, l2, q2⟩ => ⟨l1, l2.symm ▸ rfl, fun a dx n1 n2 n3 => q2 a dx n1 n2 n3⟩
end
end Z

/-! sets of texts: add, sorted -/
namespace Z
open PySem L2 PyProof.Rows PySem.Froz
section
variable {P : Program} {w : World} {A : Around} {E : Value → Shared → Prop} {s : Shared} {h : Heap} {a : Addr} {D : SD} {l : List Str}
/-- the set at a holds the texts l -/
structure SetS (P : Program) (w : World) (h : Heap) (a : Addr) (D : SD) (l : List Str) : Prop where
  ob : h.get? a = some (sObj "set" D)
  tx : TxOk P w D l
  ris : Ris D.2.2.place.toList
  led : w.params.followText "set-order" = true ∨ D.2.2.led = true
  nd : l.Nodup
theorem setS_fresh (ho : h.get? a = some { cls := .type "set", dict := none, data := .set #[] 0 (.fresh 0 0 (!w.params.followText "set-order")) }) : SetS P w h a (#[], 0, .fresh 0 0 (!w.params.followText "set-order")) [] := by
  refine ⟨ho, TxOk.nil (by rfl), List.Pairwise.nil, ?_, List.nodup_nil⟩
  cases e : w.params.followText "set-order" with
  | true => exact .inl rfl
  | false => exact .inr rfl
theorem plain_off_led (t : SetTable) : (if t.plain = true then { t with plain := false } else t).led = t.led := by split <;> rfl
theorem plain_off_place (t : SetTable) : (if t.plain = true then { t with plain := false } else t).place = t.place := by split <;> rfl
theorem tail_ris {e : Nat} {xs : Array (Int × Value)} {t : SetTable} {b : Bool} (r : Ris t.place.toList) : Ris (tailTx e xs t b).2.2.place.toList := by
  unfold tailTx
  split
  · exact relayAll_ris _ _ _
  · exact r
theorem tail_led {e : Nat} {xs : Array (Int × Value)} {t : SetTable} {b : Bool} (r : t.led = true) : (tailTx e xs t b).2.2.led = true := by
  unfold tailTx
  split
  · show (relayAll _ _ _).2.1.led = true
    rw [relayAll_led]
    exact r
  · exact r
theorem add_ris {x : Int} {v : Value} (r : Ris D.2.2.place.toList) : Ris (addTx x v D).2.2.place.toList := by
  unfold addTx
  refine tail_ris ?_
  rw [plain_off_place]
  exact layNew_ris _ _ _ _ r
theorem add_led {x : Int} {v : Value} (r : D.2.2.led = true) : (addTx x v D).2.2.led = true := by
  unfold addTx
  refine tail_led ?_
  rw [plain_off_led, layNew_led]
  exact r
/-- a text that stands there is added -/
theorem add_old {k : Str} {u : Tok} {Q : Bool → Shared → Prop} (R : SetS P w s.heap a D l) (hk : k ∈ l) (few : l.length < scanBound) (q : Q false s) : wpAny (model P w) A (setAddHashed a (.str k u) (hashStr w k)) Q E s := by
  obtain ⟨es, ep, t⟩ := D
  have F := R.tx
  have dd : (sObj "set" (es, ep, t)).data = .set es ep t := rfl
  have ft : t.fits es.size = true := F.fit
  have el : ElemsOf (PySem.strKind P w) es.toList := F.el
  have sz : es.size = l.length := F.sz
  have ik : (PySem.strKind P w).is k (.str k u) = true := is_str k u
  obtain ⟨j, hj⟩ : ∃ j, List.findIdx? (fun e => (PySem.strKind P w).is k e.2) es.toList = some j := by
    cases hr : List.findIdx? (fun e => (PySem.strKind P w).is k e.2) es.toList with
    | some j => exact ⟨j, rfl⟩
    | none =>
      obtain ⟨e, he, hp⟩ := (F.mem k).mp hk
      have c := List.findIdx?_eq_none_iff.mp hr e he
      rw [hp] at c
      cases c
  unfold setAddHashed setAddHashedIn
  refine wpAny_holding (wpAny_bind (wpAny_setState_of R.ob dd ft ?_))
  dsimp only
  rw [byScan_of rfl (show es.size < scanBound by omega) el]
  simp only [↓reduceIte]
  unfold setAddByScan
  refine wpAny_bind ?_
  refine wpAny_bind (wpAny_rule ?_)
  refine wpAny_bind (wpAny_setScan_of (knd := PySem.strKind P w) (k := k) ik R.ob dd ft el ?_)
  rw [hj]
  dsimp only
  exact wpAny_pure (wpAny_pure q)
/-- the texts behind an add -/
def insS (k : Str) (l : List Str) : List Str := if k ∈ l then l else k :: l
theorem SetS.ty (R : SetS P w s.heap a D l) : s.TypeIs (.ref a) "set" := ⟨_, R.ob, rfl⟩
theorem add_setS {k : Str} {u : Tok} {Q : Value → Shared → Prop} (R : SetS P w s.heap a D l) (few : l.length + 1 < scanBound) (q : ∀ (h' : Heap) (tk : Nat) D', Heap.SameBut a s.heap h' → SetS P w h' a D' (insS k l) → Q .none { s with heap := h', toks := tk }) :
    wpAny (model P w) A (call (.builtin "set.add") [.ref a, .str k u]) Q E s := by
  refine wpAny_call_entry F.slot_set_add R.ty F.entry_set_add ?_ (F.args_set_add_2 _ _)
  unfold Builtin.«set.add»
  unfold Builtin.Frozenset.oneOther
  simp only [List.isEmpty_nil, bind_assoc]
  unfold setAdd Builtin.Frozenset.addrOf
  refine wpAny_bind (wpAny_pure ?_)
  try dsimp only
  refine wpAny_bind (wpAny_pure ?_)
  try dsimp only
  refine wpAny_bind (wpAny_holding ?_)
  refine wpAny_bind ((PySem.strKind P w).pyHash (is_str k u) ?_)
  have R2 : SetS P w ({ s with toks := s.toks + 1 } : Shared).heap a D l := R
  by_cases hk : k ∈ l
  · refine add_old R2 hk (by omega) ?_
    show wpAny _ _ (ret Value.none) _ _ _
    refine wpAny_pure ⟨_, rfl, q s.heap _ D (Heap.SameBut.refl a s.heap) ?_⟩
    unfold insS
    rw [if_pos hk]
    exact R
  · refine add_x R2.ob R2.tx hk few ?_
    show wpAny _ _ (ret Value.none) _ _ _
    refine wpAny_pure ⟨_, rfl, q _ _ (addTx (hashStr w k) (.str k u) D) (Heap.SameBut.update s.heap a _) ?_⟩
    unfold insS
    rw [if_neg hk]
    exact ⟨get_upd _ R.ob rfl, add_ok u R.tx, add_ris R.ris, R.led.imp id add_led, List.nodup_cons.mpr ⟨hk, R.nd⟩⟩
end
end Z

/-! sets of texts: sorted(s), as rules; set comprehensions -/
namespace Z
open PySem L2 PyProof.Rows PySem.Froz
theorem perm_of_nodup : ∀ {l m : List Str}, l.Nodup → (∀ x ∈ l, x ∈ m) → m.length = l.length → m.Perm l
  | [], m, _, _, e => by rw [List.length_eq_zero_iff.mp e]
  | x :: l, m, nd, h, e => by
    have hx := h x (List.mem_cons_self ..)
    have p := List.perm_cons_erase hx
    refine p.trans (.cons x (perm_of_nodup (List.nodup_cons.mp nd).2 (fun y hy => ?_) ?_))
    · exact (List.mem_erase_of_ne (fun (z : y = x) => (List.nodup_cons.mp nd).1 (by rw [← z]; exact hy))).mpr (h y (List.mem_cons_of_mem _ hy))
    · rw [List.length_erase_of_mem hx, e]
      rfl
section
variable {P : Program} {w : World} {A : Around} {E : Value → Shared → Prop} {s : Shared} {a : Addr} {D : SD} {l : List Str}
theorem str_of_is {k : Str} {v : Value} (h : (PySem.strKind P w).is k v = true) : ∃ t, v = .str k t := Value.isStrOf_shape h
theorem txOk_strs (F : TxOk P w D l) (nd : l.Nodup) : ∃ ss, StrsAre (D.1.toList.map (·.2)) ss ∧ ss.Perm l := by
  have all : ∀ v, v ∈ D.1.toList.map (·.2) → ∃ x t, v = Value.str x t := fun v hv => by
    obtain ⟨e, he, rfl⟩ := List.mem_map.mp hv
    obtain ⟨⟨k, h1, _⟩, _⟩ := F.el e he
    exact ⟨k, str_of_is h1⟩
  refine ⟨_, strsAre_map _ all, perm_of_nodup nd (fun k hk => ?_) (by rw [List.length_map, List.length_map, Array.length_toList]; exact F.sz)⟩
  obtain ⟨e, he, h1⟩ := (F.mem k).mp hk
  obtain ⟨t, ht⟩ := str_of_is h1
  refine List.mem_map.mpr ⟨e.2, List.mem_map.mpr ⟨e, he, rfl⟩, ?_⟩
  rw [ht]
  rfl
theorem sorted_setS {Q : Value → Shared → Prop} (R : SetS P w s.heap a D l) (hh : A.handled = none) (few : l.length < 64)
    (q : ∀ s' p (out : Array Value) (c : Nat) (ss : List Str), (∀ b o, s.heap.get? b = some o → s'.heap.get? b = some o) → s'.gens = s.gens → s'.os = s.os → s.heap.objs.size ≤ p → s'.heap.get? p = some (seqObj "list" out c) → StrsAre out.toList ss → ss.Perm l → sortedS ss = true → Q (.ref p) s') :
    wpAny (model P w) A (call (.builtin "sorted") [.ref a]) Q E s := by
  refine Calls.call_function_entry kind_sorted plain_sorted entry_sorted (args_sorted1 _) ?_
  unfold Builtin.«sorted»
  refine wpAny_bind (m := checkCount "sorted" 1 1 _) (wpAny_pure ?_)
  have sz : D.1.size = l.length := R.tx.sz
  refine wpAny_bind (collect_set (A := A.in1) hh ⟨_, R.ob, rfl, rfl⟩ R.tx.fit (show D.1.size < scanBound by unfold scanBound; omega) R.ris R.led fun s1 vs k1 hz g1 o1 pm => ?_)
  obtain ⟨ss0, hS0, hp0⟩ := txOk_strs R.tx R.nd
  have all : ∀ v, v ∈ vs → ∃ x t, v = Value.str x t := fun v hv => hS0.all v (pm.mem_iff.mp hv)
  have hS : StrsAre vs (vs.map strOf) := strsAre_map vs all
  have hp : (vs.map strOf).Perm l := by
    have := pm.map strOf
    rw [hS0.strs] at this
    exact this.trans hp0
  have hl : vs.length = l.length := by rw [← hp.length_eq, List.length_map]
  refine wpAny_bind (wpAny_newList ?_ (by rw [hl, sizeLine_eq]; omega))
  have hoL : (s1.heap.push (seqObj "list" vs.toArray 0)).get? s1.heap.objs.size = some (seqObj "list" vs.toArray 0) := Heap.get?_push_size _ rfl
  refine wpAny_bind (wpAny_holding (wpAny_call_entry slot_list_sort ⟨_, hoL, rfl⟩ entry_list_sort (list_sort_treeK strKind_oneLt hoL hS.keysOf (fun v₁ v₂ rest e => keyKind_strs (by rw [← e]; exact hS)) (by omega) fun st' a1 a2 => ⟨_, rfl, ?_⟩) (args_list_sort _)))
  obtain ⟨ss', h1, h2, h3⟩ := sorted_out_str hS a1 a2
  obtain ⟨c, hc⟩ := sortedHeap_at (vs := vs) (out := (arrOf st').map (·.2)) hoL
  refine wpAny_pure ⟨_, rfl, q _ s1.heap.objs.size _ c ss' (fun b u e => ?_) g1 o1 hz hc h1 (h2.trans hp) h3⟩
  have e1 := k1 b u e
  have lt := Heap.lt_size e1
  show (sortedHeap (s1.heap.push (seqObj "list" vs.toArray 0)) s1.heap.objs.size vs _).get? b = some u
  rw [sortedHeap_old (Nat.ne_of_lt lt) (by rw [size_push']; exact Nat.lt_succ_of_lt lt)]
  exact Heap.get?_push_of_some _ e1
end
/-- the set of texts l, tracked -/
def SetSO (P : Program) (w : World) (a : Addr) (l : List Str) : HO := .ext fun h => ∃ D, SetS P w h a D l
theorem setSO_new {P : Program} {w : World} {H : Hp} {h : Heap} {a : Addr} {D : SD} {l : List Str} (R : SetS P w h a D l) : ObjOk P w H h a (SetSO P w a l) :=
  ⟨⟨D, R⟩, ⟨_, R.ob⟩, fun h1 h2 ⟨D', R'⟩ k => ⟨D', k _ R'.ob, R'.tx, R'.ris, R'.led, R'.nd⟩⟩
section
variable {X : Cx} {P : Program} {w : World} {K : PySem.W.Frag} {mg : Str → Option Value} {base : Heap} {N : List Str} {sc : Scope} {k : Nat} {σ : L2.St} {H : Hp} {Q : VK}
theorem c_sortedSS {a : Addr} {l : List Str} (C : Ctx X P w K mg base N sc k) (ha : H a = some (SetSO P w a l)) (few : l.length < 64) (h : ∀ p H' ss, H p = none → Ex H H' → H' p = some (.lst (ss.map V.str)) → ss.Perm l → sortedS ss = true → Q (.ref p) H') : zC X (.builtin "sorted") [.ref a] H Q := by
  unfold zC
  intro ps s σ us I r
  obtain ⟨D, R⟩ : ∃ D, SetS P w s.heap a D l := (I.hok a _ ha).1
  rw [Vals.ref1 r]
  have hh : X.A.handled = none := I.ok.hd C.calm
  have hp := C.prog
  have hw := C.wld
  subst hp hw
  refine sorted_setS R hh few fun s' p out c ss kp g o lp hg hi pm hs => ?_
  have hn : H p = none := I.hok.fresh lp
  obtain ⟨h2, g2, d2, t2, o2⟩ := s'
  obtain rfl : o2 = s.os := o
  obtain rfl : g2 = s.gens := g
  have J : L2.Inv X ps σ (upd H p (.lst (ss.map V.str))) ⟨h2, s.gens, d2, t2, s.os⟩ :=
    I.call (h' := h2) (g' := s.gens) (d' := d2) (t' := t2) (ch := []) (Un.laid kp lp hn) (I.hok.laid kp lp ⟨by rw [List.length_map, pm.length_eq, sizeLine_eq]; omega, out.toList, c, vals_of_strs hi, hg⟩) I.bare (fun _ z => by cases z)
  exact ⟨.ref p, _, J, rfl, h p _ ss hn (Evl.Ex.new hn) upd_same pm hs⟩
end
end Z

/-! {e for x in it}, e a text -/
namespace Z
open PySem L2 PyProof.Rows
/-- what a set comprehension of texts asks -/
def tSS (P : Program) (w : World) (wi : TI) (g : TG) (te : TE) (vs : List Nat) : TE := fun σ H Q => wi σ H fun J H1 => ∀ D, H1 D = none → ∃ W : Nat → Nat → Hp → Prop, (∃ m, W 0 m (L2.upd H1 D (SetSO P w D []))) ∧ ∀ i m H, W i m H →
  (J.stop i H ∧ Q (.ref D) H) ∨ (J.go i H ∧ ∃ Nx : Hp → Prop, (∀ H', Nx H' → ∃ m', m' < m ∧ W (i + 1) m' H') ∧ ∀ x H', J.yld i H x H' → g x (wipe σ vs) H' fun σ2 H2 => wipe σ2 vs = wipe σ vs ∧
    te σ2 H2 fun y H4 => ∃ (z : Str) (l : List Str), y = .str z ∧ H4 D = some (SetSO P w D l) ∧ l.length + 1 < scanBound ∧ Nx (L2.upd H4 D (SetSO P w D (insS z l))))
theorem addS_ok {X : Cx} {pins : List (Addr × Obj)} {σ : L2.St} {H : Hp} {s : Shared} {E : Value → Shared → Prop} {D : Addr} {l : List Str} {z : Str} {t : Tok} {Q : Value → Shared → Prop} (I : L2.Inv X pins σ H s) (hD : H D = some (SetSO X.prog X.w D l)) (few : l.length + 1 < scanBound)
    (h : ∀ s', L2.Inv X pins σ (L2.upd H D (SetSO X.prog X.w D (insS z l))) s' → Q .none s') : wpAny (model X.prog X.w) X.A (call (.builtin "set.add") [.ref D, .str z t]) Q E s := by
  obtain ⟨SD0, R⟩ : ∃ SD0, SetS X.prog X.w s.heap D SD0 l := (I.hok D _ hD).1
  refine add_setS R few fun h' tk D' sb R' => ?_
  exact h _ (I.write (e := D) (t' := tk) (by rw [hD]; trivial) (.inl rfl) (fun b u hb hu => (sb.2 b hb).trans hu) ⟨_, R'.ob⟩ (setSO_new R'))
theorem sc_own {X : Cx} {pins : List (Addr × Obj)} {s : Shared} {σ : L2.St} {H : Hp} {Q : VK} {elt tg iter : Expr} {scope : Scope} {own : List (Str × Nat)} {pos pos' : Pos} {wi : TI} {g : TG} {te : TE}
    (hc : X.calm = true) (hN : X.N.Nodup) (I : L2.Inv X pins σ H s) (hi : PI X tg iter wi) (ok : BlkOk X.N X.env.scope scope own)
    (hg : ∀ (s : Shared) (H : Hp) (a : Addr) (cl : List (Str × Addr)) (fp : List Addr), PG (X.blk s H scope (compEnvC scope cl a X.env) fp) tg g)
    (he : ∀ (s : Shared) (H : Hp) (a : Addr) (cl : List (Str × Addr)) (fp : List Addr), L2.Inv X pins σ H s → (∀ b ∈ fp, FpOk X pins H b) → PE (X.blk s H scope (compEnvC scope cl a X.env) fp) elt te) (hs : ∀ x, foldedSetIterable iter X.env x = pure x)
    (h : tSS X.prog X.w wi g te (own.map (·.2)) σ H Q) : wpAny (model X.prog X.w) X.A (comprehension (.SetComp elt [⟨tg, iter, [], 0⟩] scope pos) scope X.env pos' (newSet (.type "set")) false (eval iter X.env) none) (EP X pins σ Q) X.xe s := by
  have hfree : ∀ y ∈ scope.names, y.2 = .free → ∃ c, X.env.cells.lookup y.1 = some c := fun y hy e => (ok.free y hy e).elim (fun k => I.ok.has _ (.inl k)) fun k => I.ok.has _ (.inr k)
  have ends : ∀ (D a : Addr) (s' : Shared) (m : Str → Option Value) (H' : Hp), L2.Inv X pins σ H' s' → Q (.ref D) H' → s'.heap.Ns a m → FpOk X pins H' a → compPost (model X.prog X.w) X.A X.xe none (EP X pins σ Q) (.ref D) a (.ok .next) s' := fun D a s' m H' I' q hn f => ⟨m, hn, fun h2 sb => by
    obtain ⟨f0, f1, f2, f3, f4, f5⟩ := f
    exact ⟨.ref D, H', I'.turned (t' := s'.toks) (fun b o hb e => (sb.2 b hb).trans e) f0 f1 f3 f4 f5, rfl, q⟩⟩
  refine wpAny_comprehension_free (use := none) rfl hs (closure_ok hfree) ok.kind (fun y hy e => by rw [ok.uniq y hy, e]) (thn (hi.run pins s σ H _ I h) fun xv s1 hx => thn hx fun itv s2 h2 => ?_)
  obtain ⟨it, fp, tn, J, H2, rfl, I2, T, st2, f2, q⟩ := h2
  refine PpSet.newSet_ok (newEnv_comp ?_)
  obtain ⟨D, hD⟩ : ∃ D, s2.heap.objs.size = D := ⟨_, rfl⟩
  rw [hD]
  have hDn : H2 D = none := I2.hok.fresh (Nat.le_of_eq hD)
  obtain ⟨W, ⟨m0, w0⟩, turn⟩ := q D hDn
  obtain ⟨s3, hs3⟩ : ∃ s3 : Shared, ({ s2 with heap := s2.heap.push { cls := .type "set", dict := none, data := .set #[] 0 (.fresh 0 0 (!X.w.params.followText "set-order")) } } : Shared) = s3 := ⟨_, rfl⟩
  rw [hs3]
  have h3 : s3.heap = s2.heap.push { cls := .type "set", dict := none, data := .set #[] 0 (.fresh 0 0 (!X.w.params.followText "set-order")) } := by rw [← hs3]
  obtain ⟨H3, hH3⟩ : ∃ H3, L2.upd H2 D (SetSO X.prog X.w D []) = H3 := ⟨_, rfl⟩
  rw [hH3] at w0
  have I3 : L2.Inv X pins σ H3 s3 := by
    rw [← hs3, ← hH3]
    refine I2.laid (t' := s2.toks) (fun b o e => Heap.get?_push_of_some _ e) (Nat.le_of_eq hD) ?_
    rw [← hD]
    exact setSO_new (setS_fresh (Heap.get?_push_size _ rfl))
  have f3 : ∀ b ∈ fp, FpOk X pins H3 b ∧ b < s3.heap.objs.size := fun b hb => by
    obtain ⟨o, e, _⟩ := T.obj _ _ st2 b hb
    have hlt := Heap.lt_size e
    refine ⟨⟨?_, (f2 b hb).2⟩, by rw [h3, Heap.size_push]; exact Nat.lt_succ_of_lt hlt⟩
    rw [← hH3, upd_ne (by rw [← hD]; exact Nat.ne_of_lt hlt)]
    exact (f2 b hb).1
  have st3 : tn 0 s3.heap := T.keep _ _ _ st2 fun b _ o e => by rw [h3]; exact Heap.get?_push_of_some _ e
  have I4 := block_start I3 ok hN f3
  have pg := hg s3 H3 s3.heap.objs.size (cellsFrom (s3.heap.objs.size + 1) scope.names (cloFrom X.env.cells scope.names [])) fp
  have pe := he s3 H3 s3.heap.objs.size (cellsFrom (s3.heap.objs.size + 1) scope.names (cloFrom X.env.cells scope.names [])) fp I3 fun b hb => (f3 b hb).1
  show codeAny _ _ (.compStart (.SetComp elt [⟨tg, iter, [], 0⟩] scope pos) 0 (.ref it) (.ref D) (compEnvC scope (cellsFrom (s3.heap.objs.size + 1) scope.names (cloFrom X.env.cells scope.names [])) s3.heap.objs.size X.env)) (compPost (model X.prog X.w) X.A X.xe none (EP X pins σ Q) (.ref D) s3.heap.objs.size) { s3 with heap := pushCells (s3.heap.push { cls := .type "dict", data := .dict #[] }) scope.names }
  obtain ⟨ce, hce⟩ : ∃ ce, compEnvC scope (cellsFrom (s3.heap.objs.size + 1) scope.names (cloFrom X.env.cells scope.names [])) s3.heap.objs.size X.env = ce := ⟨_, rfl⟩
  rw [hce] at I4 pg pe ⊢
  have cL : ce.locals = s3.heap.objs.size := by rw [← hce]; rfl
  obtain ⟨s4, hs4⟩ : ∃ s4 : Shared, ({ s3 with heap := pushCells (s3.heap.push { cls := .type "dict", data := .dict #[] }) scope.names } : Shared) = s4 := ⟨_, rfl⟩
  rw [hs4] at I4 ⊢
  have st4 : tn 0 s4.heap := T.keep _ _ _ st3 fun b _ o e => by rw [← hs4]; exact pushCells_keeps _ _ _ _ (Heap.get?_push_of_some _ e)
  have nfp : ∀ b ∈ fp, H3 b = none := fun b hb => (f3 b hb).1.1
  have stat : ∀ {σ' : L2.St} {H' : Hp} {s' : Shared}, L2.Inv (X.blk s3 H3 scope ce fp) [] σ' H' s' → (∀ b ∈ fp, H' b = none) → ∀ b ∈ fp, FpOk (X.blk s3 H3 scope ce fp) [] H' b := fun {σ' H' s'} I' hn b hb =>
    ⟨hn b hb, (I'.ok.exf b hb).1, I'.ok.exfs b hb, .inl hb, fun x c e => (I'.ok.exf b hb).2 x c e, fun p hp => absurd (show p ∈ ([] : List (Addr × Obj)) ++ [] from hp) (by simp)⟩
  have loop : codeAny (model X.prog X.w) X.A (.compLoop (.SetComp elt [⟨tg, iter, [], 0⟩] scope pos) 0 (.ref it) (.ref D) ce) (compPost (model X.prog X.w) X.A X.xe none (EP X pins σ Q) (.ref D) s3.heap.objs.size) s4 := by
    refine PpSet.compLoopS_any (fun n s' => ∃ i H', L2.Inv (X.blk s3 H3 scope ce fp) [] (wipe σ (own.map (·.2))) H' s' ∧ tn i s'.heap ∧ (∀ b ∈ fp, H' b = none) ∧ W i n H') ?_ m0 ⟨0, H3, I4, st4, nfp, w0⟩
    rintro n s5 ⟨i, H5, I5, st5, n5, w5⟩
    rcases turn i n H5 w5 with ⟨stop, qq⟩ | ⟨go, Nx, hNx, step⟩
    · have td := T.done (X.blk s3 H3 scope ce fp) rfl rfl rfl hc i [] s5 _ H5 (fun _ _ => False) I5 (stat I5 n5) st5 stop
      refine thnF td fun r s6 ⟨hr, I6⟩ => ?_
      subst hr
      have I7 : L2.Inv X pins σ H5 s6 := I3.call' (ch := fp) I6.os I6.base I6.hok I6.bare fun b hb => ⟨(f3 b hb).1.2.2.2.1, (f3 b hb).1.2.1, (f3 b hb).1.2.2.2.2.1, (f3 b hb).1.2.2.2.2.2⟩
      have nC : H5 s3.heap.objs.size = none := by
        have z : H5 ce.locals = none := I6.free
        rw [cL] at z
        exact z
      obtain ⟨m, hn, _⟩ := I6.loc
      have hn : s6.heap.Ns ce.locals m := hn
      rw [cL] at hn
      exact ends D s3.heap.objs.size s6 m H5 I7 qq hn (I3.fpOk (Nat.le_refl _) nC)
    · have ti := T.item (X.blk s3 H3 scope ce fp) rfl rfl rfl hc i [] s5 _ H5 (fun _ _ => False) I5 (stat I5 n5) st5 go
      refine thnF ti fun r s6 ⟨u, hr, h6⟩ => ?_
      subst hr
      refine thnF h6 fun _ s7 ⟨x, H7, I7, r7, y7, st7, n7⟩ => ?_
      have I7' := I7.pinned (stat I7 n7) (T.obj _ _ st7)
      refine thnF (pg.run _ s7 _ H7 x u _ I7' r7 (step x H7 y7)) fun _ s8 ⟨σ8, H8, I8, hw8, q8⟩ => ?_
      refine thnF ((pts_nil (X := X.blk s3 H3 scope ce fp)).run _ s8 σ8 H8 (fun b H => b = true ∧ H = H8) I8 (show true = true ∧ H8 = H8 from And.intro rfl rfl)) fun b s9 ⟨H9, I9, eb, eH⟩ => ?_
      subst eb eH
      have fin : ∀ {s' : Shared} {H' : Hp}, L2.Inv (X.blk s3 H3 scope ce fp) ([] ++ pinsAt fp s7.heap) σ8 H' s' → Nx H' → ∃ m, m < n ∧ ∃ i H', L2.Inv (X.blk s3 H3 scope ce fp) [] (wipe σ (own.map (·.2))) H' s' ∧ tn i s'.heap ∧ (∀ b ∈ fp, H' b = none) ∧ W i m H' := fun {s' H'} I' nx => by
        obtain ⟨m', hm, w'⟩ := hNx H' nx
        have pin' : ∀ b ∈ fp, ∀ o, s7.heap.get? b = some o → s'.heap.get? b = some o ∧ H' b = none := fun b hb o e =>
          let z := I'.pin (b, o) (List.mem_append_right _ (List.mem_append_right _ (mem_pinsAt hb e)))
          ⟨z.1, z.2.1⟩
        have hl : (wipe σ (own.map (·.2))).length = σ8.length := by rw [← hw8, wipe_length]
        refine ⟨m', hm, i + 1, H', (I'.unpinned (pins := [])).weak hl (fun j v e => ?_), T.keep _ _ _ st7 fun b hb o e => (pin' b hb o e).1, fun b hb => ?_, w'⟩
        · rw [← hw8] at e
          exact (wipe_some e).1
        · obtain ⟨o, e, _⟩ := T.obj _ _ st7 b hb
          exact (pin' b hb o e).2
      simp only [if_true]
      refine thnF (pe.run _ s9 σ8 H9 _ I9 q8) fun z s10 ⟨yv, H10, I10, r10, zt, lt, ey, hD10, few, nx⟩ => ?_
      subst ey
      obtain ⟨tk, rfl⟩ := r10
      exact addS_ok (X := X.blk s3 H3 scope ce fp) I10 hD10 few fun s11 I11 => fin I11 nx
  exact PpSet.codeAny_compStart_set loop (T.self X.A 0 _ _ _ st4 loop)
section
variable {X : Cx} {P : Program} {w : World} {K : PySem.W.Frag} {mg : Str → Option Value} {base : Heap} {N : List Str} {sc : Scope} {k : Nat} {σ : L2.St} {H : Hp} {Q : VK}
/-- the texts g 0, .., g (n - 1) as a set -/
def insAll (g : Nat → Str) : Nat → List Str
  | 0 => []
  | n + 1 => insS (g n) (insAll g n)
theorem insAll_len (g : Nat → Str) : ∀ n, (insAll g n).length ≤ n
  | 0 => Nat.le_refl 0
  | n + 1 => by
    have := insAll_len g n
    show (insS (g n) (insAll g n)).length ≤ n + 1
    unfold insS
    split
    · omega
    · rw [List.length_cons]; omega
theorem insAll_mem (g : Nat → Str) (z : Str) : ∀ n, z ∈ insAll g n ↔ ∃ i, i < n ∧ z = g i
  | 0 => ⟨fun h => (by cases h), fun ⟨i, h, _⟩ => absurd h (Nat.not_lt_zero i)⟩
  | n + 1 => by
    have ih := insAll_mem g z n
    show z ∈ insS (g n) (insAll g n) ↔ _
    unfold insS
    constructor
    · intro h
      split at h
      · obtain ⟨i, h1, h2⟩ := ih.mp h
        exact ⟨i, by omega, h2⟩
      · rcases List.mem_cons.mp h with e | h
        · exact ⟨n, by omega, e⟩
        · obtain ⟨i, h1, h2⟩ := ih.mp h
          exact ⟨i, by omega, h2⟩
    · rintro ⟨i, h1, h2⟩
      by_cases e : i = n
      · subst e
        split
        · rename_i c; rw [h2]; exact c
        · rw [h2]; exact List.mem_cons_self ..
      · have := ih.mpr ⟨i, by omega, h2⟩
        split
        · exact this
        · exact List.mem_cons_of_mem _ this
theorem insAll_nd (g : Nat → Str) : ∀ n, (insAll g n).Nodup
  | 0 => List.nodup_nil
  | n + 1 => by
    have := insAll_nd g n
    show (insS (g n) (insAll g n)).Nodup
    unfold insS
    split
    · exact this
    · rename_i c
      exact List.nodup_cons.mpr ⟨c, this⟩
/-- {elt for x in it}, elt the text g i -/
theorem e_scS {x : Str} {j : Nat} {px : Pos} {elt it : Expr} {scope : Scope} {own : List (Str × Nat)} {pos : Pos} (C : Ctx X P w K mg base N sc k) (hb : blkC N sc scope own = true) (h1 : N[j]? = some x) (h2 : lclB (relS scope sc) x = true)
    (hw : ∀ v, wipe ((wipe σ (own.map (·.2))).set j (some v)) (own.map (·.2)) = wipe σ (own.map (·.2)))
    (h : zI X (.Name x px) it σ H fun J H1 => ∃ n S Y, ∃ g : Nat → Str, Walk J n S Y ∧ n ≤ 1000 ∧ (∀ H', Ex H1 H' → S H') ∧
      (∀ i v H', i < n → Ex H1 H' → Y i v H' → ∀ X1, Ctx X1 P w K mg base N (relS scope sc) k → zE X1 elt ((wipe σ (own.map (·.2))).set j (some v)) H' fun y H4 => Ex H' H4 ∧ y = .str (g i)) ∧
      ∀ D H', H1 D = none → Ex H1 H' → H' D = some (SetSO P w D (insAll g n)) → Q (.ref D) H')
    (hs : ∀ x, foldedSetIterable it X.env x = pure x := by intro _; rfl) : zE X (.SetComp elt [⟨.Name x px, it, [], 0⟩] scope pos) σ H Q := by
  unfold zE
  intro pins s I
  rw [PpSet.eval_SetComp]
  refine sc_own (own := own) (wi := zI X (.Name x px) it) (g := zGb X scope (.Name x px)) (te := zEb X scope elt) C.calm (by rw [C.nms]; exact C.nd) I (zI_ok _ it) (by rw [C.nms, C.scp]; exact blkOk_by hb)
    (fun s H0 c0 cl fp => ⟨fun ps s' σ H v u Q I r q => (zG_ok (.Name x px)).run ps s' σ H v u Q I r (q s H0 c0 cl fp)⟩)
    (fun s H0 c0 cl fp _ _ => ⟨fun ps s' σ H Q I' q => (zE_ok elt).run ps s' σ H Q I' (q s H0 c0 cl fp)⟩) hs ?_
  show zI X (.Name x px) it σ H _
  refine zI_mono h fun J H1 ⟨n, S, Y, g, W, hn, hS, he, hd⟩ D hD => ?_
  rw [C.prog, C.wld]
  refine ⟨fun i m H' => m = n - i ∧ i ≤ n ∧ H' D = some (SetSO P w D (insAll g i)) ∧ Ex H1 H', ⟨n, rfl, Nat.zero_le _, upd_same, Evl.Ex.new hD⟩, ?_⟩
  rintro i m H2 ⟨rfl, hi, a1, a2⟩
  by_cases hlt : i < n
  · refine .inr ⟨W.go i H2 hlt (hS H2 a2), fun H' => H' D = some (SetSO P w D (insAll g (i + 1))) ∧ Ex H1 H', fun H' ⟨a, b⟩ => ⟨n - (i + 1), by omega, rfl, hlt, a, b⟩, fun v H' y => ?_⟩
    obtain ⟨e1, y1⟩ := W.yld i H2 v H' hlt (hS H2 a2) y
    have eH : Ex H1 H' := a2.trans e1
    refine gb_intro C fun X1 C1 => g_name (C1.ns h1 (by unfold locB; unfold lclB at h2; rw [h2]; rfl) (.inr h2)) ⟨hw v, ?_⟩
    show zEb X scope elt ((wipe σ (own.map (·.2))).set j (some v)) H' _
    refine eb_intro C fun X2 C2 => zE_mono (he i v H' hlt eH y1 X2 C2) fun z H4 ⟨e4, ez⟩ => ?_
    have hl := insAll_len g i
    exact ⟨g i, insAll g i, ez, e4 _ _ (e1 _ _ a1), by unfold scanBound; omega, upd_same, Xb.ex (eH.trans e4) hD .upd⟩
  · have e : i = n := by omega
    subst e
    exact .inl ⟨W.stop H2 (hS H2 a2), hd D H2 hD a2 a1⟩
end
end Z

/-! [e for x in it], e a new object -/
namespace Z
open PySem L2
section
variable {X : Cx} {P : Program} {w : World} {K : PySem.W.Frag} {mg : Str → Option Value} {base : Heap} {N : List Str} {sc : Scope} {k : Nat} {σ : L2.St} {H : Hp}
theorem ex_del {H : Hp} {D : Addr} : Ex (del H D) H := fun b o h => by
  by_cases e : b = D
  · subst e; rw [del_same] at h; cases h
  · rw [del_ne e] at h; exact h
theorem ex_dels {H H' : Hp} {D : Addr} (x : Xb D H H') : Ex (del H D) (del H' D) := fun b o h => by
  by_cases e : b = D
  · subst e; rw [del_same] at h; cases h
  · rw [del_ne e] at h ⊢; exact x b o e h
theorem del_at {H : Hp} {D b : Addr} {o : HO} (h : H b = some o) (hne : b ≠ D) : del H D b = some o := by rw [del_ne hne]; exact h
/-- of each item R0 is known, which stands while things stand -/
theorem comp_mapH {x : Str} {j : Nat} {px : Pos} {elt : Expr} {scope : Scope} {own : List Nat} {n : Nat} {S : Hp → Prop} {Y : Nat → V → Hp → Prop} (C : Ctx X P w K mg base N sc k) (R0 : Nat → V → Hp → Prop) (mono : ∀ i y H H', Ex H H' → R0 i y H → R0 i y H') (hn : n ≤ 100000) (hsrc : ∀ H', Ex H H' → S H')
    (h1 : N[j]? = some x) (h2 : lclB (relS scope sc) x = true) (hw : ∀ v, wipe ((wipe σ own).set j (some v)) own = wipe σ own)
    (he : ∀ i v H', i < n → Ex H H' → Y i v H' → ∀ X1, Ctx X1 P w K mg base N (relS scope sc) k → zE X1 elt ((wipe σ own).set j (some v)) H' fun y H4 => Ex H' H4 ∧ ∀ D ys, H4 D = some (.lst ys) → H D = none → (∃ zs, H' D = some (.lst zs)) → R0 i y (del H4 D)) :
    Comp X (.Name x px) elt [] scope own σ H n S Y (fun D i ys H' => ys.length = i ∧ ∀ t y, ys[t]? = some y → R0 t y (del H' D)) where
  small := hn
  start := fun _ _ _ _ => ⟨rfl, fun _ _ z => by cases z⟩
  src := hsrc
  keep := fun D i ys H' H'' x ⟨a, b⟩ => ⟨a, fun t y h => mono _ _ _ _ (ex_dels x) (b t y h)⟩
  len := fun _ i ys _ h => by rw [h.1]; exact Nat.le_refl _
  turn := fun D i v ys H' hi hD e1 hl ha hy => gb_intro C fun X1 C1 => g_name (C1.ns h1 (by unfold locB; unfold lclB at h2; rw [h2]; rfl) (.inr h2)) ⟨hw v, Evl.Ex.refl _, fun _ _ _ _ _ => ts_nil ⟨Evl.Ex.refl _, if_pos rfl ▸ eb_intro C fun X2 C2 =>
    zE_mono (he i v H' hi e1 hy X2 C2) fun y H4 ⟨e4, q⟩ => ⟨e4, by rw [List.length_append, ha.1]; rfl, fun t y' hy' => by
      by_cases e : t < ys.length
      · rw [List.getElem?_append_left e] at hy'
        exact mono _ _ _ _ (ex_dels (Xb.of e4)) (ha.2 t y' hy')
      · have hti : t = ys.length := by
          have := (List.getElem?_eq_some_iff.mp hy').1
          rw [List.length_append] at this
          simp at this
          omega
        subst hti
        rw [List.getElem?_append_right (Nat.le_refl _), Nat.sub_self] at hy'
        cases hy'
        rw [ha.1]
        exact q D ys (e4 _ _ hl) hD ⟨ys, hl⟩⟩⟩⟩
/-- list(a) -/
theorem e_list1 {a : Expr} {p pos : Pos} {Q : VK} (C : Ctx X P w K mg base N sc k) (hm : mg "list" = none) (h : zE X a σ H fun v H1 => zC X (.type "list") [v] H1 Q) (hg : gloB sc "list" = true := by decide +kernel) (he : starEach [a] X.env = (false, eval a X.env) :: starEach [] X.env := by rfl) : zE X (.Call (.Name "list" p) [a] [] pos) σ H Q :=
  e_callT (C.gl hg) (by rw [C.mgl]; exact hm) (by decide +kernel) (a_cons (zE_mono h fun v H1 q => a_nil q) he) (he := he)
theorem c_listL {l : Addr} {xs : List V} {Q : VK} (hl : SqL X.K H l xs) (h : ∀ p H', H p = none → Ex H H' → H' p = some (.lst xs) → Q (.ref p) H') : zC X (.type "list") [.ref l] H Q := zC_of call_list_of ⟨l, xs, rfl, .inl hl, fun p np => h p _ np (Evl.Ex.new np) upd_same⟩
theorem c_listT {l : Addr} {xs : List V} {Q : VK} (hl : SqT X.K H l xs) (h : ∀ p H', H p = none → Ex H H' → H' p = some (.lst xs) → Q (.ref p) H') : zC X (.type "list") [.ref l] H Q := zC_of call_list_of ⟨l, xs, rfl, .inr hl, fun p np => h p _ np (Evl.Ex.new np) upd_same⟩
end
end Z

/-! bodies of methods -/
namespace Z
open PySem L2
section
variable {P : Program} {w : World} {K : PySem.W.Frag} {mg : Str → Option Value} {base : Heap} {N : List Str} {k : Nat}
theorem fn_okRM {x q : Str} {st : Stmt} {dvs : List V} {kws : List (Str × V)} {f : Addr} {fd : FuncData} {ps : List Str} {sp : Sp}
    (F : FunD K x q (defArgs st) (defBody st) (defScope st) dvs kws f fd) (S : FnScope N ps (defScope st)) (len : ∀ vs H Q E, sp vs H Q E → vs.length = ps.length)
    (body : ∀ X vs H Q E, Ctx X P w K mg base N (defScope st) k → (∀ y, X.fn y = true) → Takes X (WE E) → X.env.code = fd.code → X.env.qual = q ++ ".<locals>." → sp vs H Q E → zB X (defBody st) (fun _ H' => Q .non H') Q (fun _ _ => False) (fun _ _ => False) (start N vs) H) :
    FnOk P w K mg base (L2.CX P w) (k + 1) f fd ps sp := by
  obtain ⟨oc, od, dV, kV, doc, pm, an, cdv, ct, osl, rfl, lk, hcd, _, _⟩ := F.ex
  exact fn_of lk hcd S len fun A outer s H vs Q E hr h => ⟨_, zB_ok _, body _ vs H Q E ⟨rfl, rfl, rfl, rfl, rfl, rfl, rfl, rfl, hr, passes_of rfl, S.nd⟩ (fun _ => rfl) (takes_of rfl rfl rfl rfl) rfl rfl h⟩
theorem fn_okM {x q : Str} {st : Stmt} {dvs : List V} {kws : List (Str × V)} {f : Addr} {fd : FuncData} {ps : List Str} {sp : Sp}
    (F : FunD K x q (defArgs st) (defBody st) (defScope st) dvs kws f fd) (S : FnScope N ps (defScope st)) (len : ∀ vs H Q E, sp vs H Q E → vs.length = ps.length)
    (body : ∀ X vs H Q E, Ctx X P w K mg base N (defScope st) k → (∀ y, X.fn y = true) → sp vs H Q E → zB X (defBody st) (fun _ H' => Q .non H') Q (fun _ _ => False) (fun _ _ => False) (start N vs) H) : FnOk P w K mg base CX0 (k + 1) f fd ps sp := by
  obtain ⟨oc, od, dV, kV, doc, pm, an, cdv, ct, osl, rfl, lk, hcd, _, _⟩ := F.ex
  exact fn_of lk hcd S len fun A outer s H vs Q E hr h => ⟨_, PSs.nox (zB_ok _), body _ vs H Q E ⟨rfl, rfl, rfl, rfl, rfl, rfl, rfl, rfl, hr, PassesOwn.never, S.nd⟩ (fun _ => rfl) h⟩
end
end Z

/-! methods called where errors may leave -/
namespace Z
open PySem L2
section
variable {X : Cx} {P : Program} {w : World} {K : PySem.W.Frag} {mg : Str → Option Value} {base : Heap} {N : List Str} {sc : Scope} {k : Nat} {σ : L2.St} {H : Hp} {Q : VK}
theorem passR {E : XK} (C : Ctx X P w K mg base N sc k) (tk : Takes X (WE E)) : Passes (L2.CX P w) X E := fun pins σ H s e s' I z => passes_call (W := WE E) tk (fun _ _ _ _ h => h) pins σ H s e s' I (by rw [C.prog, C.wld]; exact z)
theorem passE0 (C : Ctx X P w K mg base N sc k) : Passes (L2.CX P w) X E0 := fun pins σ H s e s' I z => passL (X := X) pins σ H s e s' I (by rw [C.prog, C.wld]; exact z)
end
end Z

/-! min of a list of data, a list of data asked for one, objects made under a condition -/
namespace Z
open PySem L2
section
variable {X : Cx} {P : Program} {w : World} {K : PySem.W.Frag} {mg : Str → Option Value} {base : Heap} {N : List Str} {sc : Scope} {k : Nat} {σ : L2.St} {H : Hp} {Q : VK}
/-- min(l): the first of the least items -/
theorem c_minD {l : Addr} {xs : List V} {d : PyData} {ds : List PyData} (C : Ctx X P w K mg base N sc k) (hl : SqL X.K H l xs) (hd : DpAll X.K H xs (d :: ds)) (ha : PySem.W.AlikeAll (d :: ds)) (hc : PyData.canLayAll0 (d :: ds) = true) (hz : PyData.depthAll (d :: ds) ≤ 50)
    (h : ∀ (i : Nat) v, xs[i]? = some v → (d :: ds)[i]? = some (PySem.W.minD d ds) → Q v H) : zC X (.builtin "min") [.ref l] H Q := by
  unfold zC
  intro ps s σ us I r
  obtain ⟨its, rv, hl', _⟩ := I.list hl
  rw [Vals.ref1 r]
  obtain ⟨as, ra⟩ := Dp.readsAll I _ _ _ hd rv
  have hu := C.room.units
  refine PySem.W.min_list_data (I.ok.hd C.calm) hl'.isList ra ha (by omega) fun i v h' tk bs hv hr hk => ?_
  have hv' : its[i]? = some v := by simpa using hv
  obtain ⟨bs2, r2, hlt, hmem, _⟩ := PySem.W.readsAll_atA ra i v hv
  obtain ⟨x, hx⟩ : ∃ x, xs[i]? = some x := by
    cases e : xs[i]? with
    | none => rw [Vals.none_of rv e] at hv'; cases hv'
    | some x => exact ⟨x, rfl⟩
  obtain ⟨u, hu1, hu2⟩ := Vals.get rv hx
  obtain rfl : u = v := Option.some.inj (hu1.symm.trans hv')
  refine ⟨x, H, I.kept hk, hu2, h i x hx ?_⟩
  have hget : (d :: ds)[i]? = some ((d :: ds).getD i .none) := by rw [List.getElem?_eq_getElem hlt, List.getD, List.getElem?_eq_getElem hlt]; rfl
  rw [hget]
  congr 1
  have hc2 : ((d :: ds).getD i PyData.none).canLay0 = true := lay_mem hc hmem
  exact SeqAt.Reads.unique _ _ _ _ _ hc2 (PySem.W.reads_keeps hk r2) hr
where
  lay_mem {ds : List PyData} {d : PyData} (h : PyData.canLayAll0 ds = true) (hm : d ∈ ds) : d.canLay0 = true := by
    induction ds with
    | nil => cases hm
    | cons x r ih =>
      have h' : x.canLay0 = true ∧ PyData.canLayAll0 r = true := by simpa [PyData.canLayAll0] using h
      rcases List.mem_cons.mp hm with rfl | hm
      · exact h'.1
      · exact ih h'.2 hm
/-- x in l, of data -/
theorem o_inLD {x : V} {l : Addr} {d : PyData} {ds : List PyData} (C : Ctx X P w K mg base N sc k) (hl : Dp X.K H (.ref l) (.list ds)) (hx : Dp X.K H x d) (hc : PyData.canLayAll0 ds = true) (hd : d.canLay0 = true) (hz : d.depth ≤ 50) (h : Q (.bl (ds.any fun y => PyData.eqv y d)) H) : zO X (compareOp .In) x (.ref l) H Q := by
  unfold zO
  intro ps s σ u v I rx rl
  obtain ⟨as, r1⟩ := Dp.reads I _ _ _ hl rl
  obtain ⟨bs, r2⟩ := Dp.reads I _ _ _ hx rx
  have hu := C.room.units
  exact SeqAt.in_list_reads r1 r2 hc hd (by omega) ⟨.bl _, H, I, rfl, h⟩
theorem o_ninLD {x : V} {l : Addr} {d : PyData} {ds : List PyData} (C : Ctx X P w K mg base N sc k) (hl : Dp X.K H (.ref l) (.list ds)) (hx : Dp X.K H x d) (hc : PyData.canLayAll0 ds = true) (hd : d.canLay0 = true) (hz : d.depth ≤ 50) (h : Q (.bl (!ds.any fun y => PyData.eqv y d)) H) : zO X (compareOp .NotIn) x (.ref l) H Q := by
  unfold zO
  intro ps s σ u v I rx rl
  obtain ⟨as, r1⟩ := Dp.reads I _ _ _ hl rl
  obtain ⟨bs, r2⟩ := Dp.reads I _ _ _ hx rx
  have hu := C.room.units
  exact SeqAt.notIn_list_reads r1 r2 hc hd (by omega) ⟨.bl _, H, I, rfl, h⟩
/-- [elt for x in it if c], c the same b for all -/
theorem comp_mapHf {x : Str} {j : Nat} {px : Pos} {elt c : Expr} {scope : Scope} {own : List Nat} {n : Nat} {S : Hp → Prop} {Y : Nat → V → Hp → Prop} (C : Ctx X P w K mg base N sc k) (b : Bool) (R0 : Nat → V → Hp → Prop) (mono : ∀ i y H H', Ex H H' → R0 i y H → R0 i y H') (hn : n ≤ 100000) (hsrc : ∀ H', Ex H H' → S H')
    (h1 : N[j]? = some x) (h2 : lclB (relS scope sc) x = true) (hw : ∀ v, wipe ((wipe σ own).set j (some v)) own = wipe σ own)
    (hc : ∀ i v H', i < n → Ex H H' → Y i v H' → ∀ X1, Ctx X1 P w K mg base N (relS scope sc) k → zT X1 c ((wipe σ own).set j (some v)) H' fun b' H3 => H3 = H' ∧ b' = b)
    (he : b = true → ∀ i v H', i < n → Ex H H' → Y i v H' → ∀ X1, Ctx X1 P w K mg base N (relS scope sc) k → zE X1 elt ((wipe σ own).set j (some v)) H' fun y H4 => Ex H' H4 ∧ ∀ D ys, H4 D = some (.lst ys) → H D = none → (∃ zs, H' D = some (.lst zs)) → R0 i y (del H4 D)) :
    Comp X (.Name x px) elt [c] scope own σ H n S Y (fun D i ys H' => ys.length = (if b = true then i else 0) ∧ ∀ t y, ys[t]? = some y → R0 t y (del H' D)) where
  small := hn
  start := fun _ _ _ _ => ⟨by split <;> rfl, fun _ _ z => by cases z⟩
  src := hsrc
  keep := fun D i ys H' H'' x ⟨a, b⟩ => ⟨a, fun t y h => mono _ _ _ _ (ex_dels x) (b t y h)⟩
  len := fun _ i ys _ h => by rw [h.1]; split <;> omega
  turn := fun D i v ys H' hi hD e1 hl ha hy => gb_intro C fun X1 C1 => g_name (C1.ns h1 (by unfold locB; unfold lclB at h2; rw [h2]; rfl) (.inr h2)) ⟨hw v, Evl.Ex.refl _, tb_intro C fun X2 C2 => ts_one (zT_mono (hc i v H' hi e1 hy X2 C2) fun b' H3 ⟨e3, hb⟩ => by
    subst e3
    subst hb
    refine ⟨Evl.Ex.refl _, ?_⟩
    cases b' with
    | false =>
      show ys.length = _ ∧ _
      exact ⟨ha.1, ha.2⟩
    | true =>
      show zEb X scope elt _ _ _
      exact eb_intro C fun X3 C3 => zE_mono (he rfl i v _ hi e1 hy X3 C3) fun y H4 ⟨e4, q⟩ => ⟨e4, by rw [List.length_append, ha.1]; rfl, fun t y' hy' => by
        have hai : ys.length = i := ha.1
        by_cases e : t < ys.length
        · rw [List.getElem?_append_left e] at hy'
          exact mono _ _ _ _ (ex_dels (Xb.of e4)) (ha.2 t y' hy')
        · have hti : t = ys.length := by
            have := (List.getElem?_eq_some_iff.mp hy').1
            rw [List.length_append] at this
            simp at this
            omega
          subst hti
          rw [List.getElem?_append_right (Nat.le_refl _), Nat.sub_self] at hy'
          cases hy'
          rw [hai]
          exact q D ys (e4 _ _ hl) hD ⟨ys, hl⟩⟩)⟩
end
end Z

/-! y = [.. for ..], y captured by another def -/
namespace Z
open PySem L2
section
variable {X : Cx} {P : Program} {w : World} {K : PySem.W.Frag} {mg : Str → Option Value} {base : Heap} {N : List Str} {sc : Scope} {k : Nat} {σ : L2.St} {H : Hp} {nx bk ct : L2.St → Hp → Prop} {rt : VK}
theorem sw_cell {y : Str} {py pos : Pos} {elt : Expr} {gs : List Comprehension} {scope : Scope} {l : Nat} (C : Ctx X P w K mg base N sc k) (h : (sc.names.lookup y == some .cell) = true) : swapsWithSole [.Name y py] (.ListComp elt gs scope pos) l X.env = pure false := by
  have ky : X.env.kindOf y = some .cell := by
    show X.env.scope.names.lookup y = _
    rw [C.scp]
    exact beq_iff_eq.mp h
  unfold swapsWithSole swapsWith
  simp only [ky]
  have e : ((some NameKind.cell : Option NameKind) == some NameKind.local) = false := rfl
  simp only [e, Bool.and_false, Bool.false_and]
/-- y = [elt for tg in it if ..] -/
theorem s_lcC {y : Str} {py : Pos} {elt : Expr} {gs : List Comprehension} {scope : Scope} {pos spos : Pos} (C : Ctx X P w K mg base N sc k) (h : zE X (.ListComp elt gs scope pos) σ H fun v H1 => zG X (.Name y py) v σ H1 nx)
    (hc : (sc.names.lookup y == some .cell) = true := by decide +kernel) (hw : swappedStores [.Name y py] (.ListComp elt gs scope pos) X.env = pure none := by rfl) : zS X (.Assign [.Name y py] (.ListComp elt gs scope pos) spos) nx rt bk ct σ H := s_asg h (sw_cell C hc) hw
end
end Z

/-! the head: methods, keyword-only defaults, a class's constants -/
namespace Z
open PySem L2
theorem conB_ok {K : PySem.W.Frag} {C : Addr} {f : Str} {i : Int} (h : conB K C f i = true) : ClsC K C f (.int i) := by
  obtain ⟨h1, h⟩ := He.ba h
  obtain ⟨h2, h3⟩ := He.ba h
  split at h3
  · rename_i j t e
    have := of_decide_eq_true h3
    subst this
    exact ⟨_, _, ⟨h1, He.eqO_ok h2⟩, ⟨e, ⟨t, rfl⟩⟩⟩
  · cases h3
end Z

/-! != by a class's own ==, properties, isinstance of an own class, errors without a value, tuples joined -/
namespace Z
open PySem L2
/-- what the written part says of a class with its own == (at f) and no own != -/
structure OwnE (K : PySem.W.Frag) (C f : Addr) : Prop where
  ne : PySem.W.findIn K (.ref C) "__ne__" = some (some (.builtin "object.__ne__"))
  eq : PySem.W.findIn K (.ref C) "__eq__" = some (some (.ref f))
  fn : PySem.W.isFn K (.ref f) = true
  mro : PySem.W.mroIn K C (.type "object") = some true
section
variable {M : Model} {prog : Program} {w : World} {A : Around} {E : Value → Shared → Prop} {s : Shared} {K : PySem.W.Frag} {x y C f : Addr} {ox : Obj} {od : Option Obj}
theorem neg_ent (h1 : A.units < cLine) (X : K.In s.heap) (I : PySem.W.InstAt s.heap x ox C od) (T : OwnE K C f) {Q : Fin → Shared → Prop}
    (h : wpAny M A (call (.ref f) [.ref x, .ref y]) (fun v s1 => ∃ b, v = .bool b ∧ Q (.done (.ret (.bool (!b)))) s1) E s) : wpAny M A (Builtin.«object.__ne__» ⟨[.ref x, .ref y], []⟩) Q E s := by
  unfold Builtin.«object.__ne__»
  have h2 : wpAny M A (callSpecialIfBound? (.ref x) (Str.ofString "__eq__") [.ref y]) (fun r s1 => ∃ b, r = some (.bool b) ∧ Q (.done (.ret (.bool (!b)))) s1) E s :=
    PySem.W.ifBound_K X I T.eq T.fn (wpAny_mono h (fun v s1 ⟨b, e, q⟩ => ⟨b, by rw [e], q⟩) fun _ _ z => z)
  repeat (first
    | (with_reducible refine wpAny_cRoomFor h1 ?_)
    | (refine wpAny_bind (m := callSpecialIfBound? (.ref x) (Str.ofString "__eq__") [.ref y]) (wpAny_mono h2 (fun r s1 hr => by
        obtain ⟨b, rfl, q⟩ := hr
        repeat (first | exact q | exact wpAny_pure q | (refine wpAny_bind (m := truthy (.bool _)) (wpAny_truthy_bool ?_)) | wp_step)) fun _ _ z => z))
    | wp_step)
theorem neg_call {Q : Value → Shared → Prop} (h1 : A.in1.units < cLine) (X : K.In s.heap) (I : PySem.W.InstAt s.heap x ox C od) (T : OwnE K C f)
    (h : wpAny (model prog w) A.in1 (call (.ref f) [.ref x, .ref y]) (fun v s1 => ∃ b, v = .bool b ∧ Q (.bool (!b)) s1) E s) : wpAny (model prog w) A (call (.builtin "object.__ne__") [.ref x, .ref y]) Q E s :=
  wpAny_call (codeAny_call_builtin F.cmp_object.ne.plain F.cmpEntry_ne (PySem.W.check_slot F.cmpKind_ne F.cmpSplit_ne (I.type.andThen (PySem.W.looks_mroIn X T.mro)) (F.cmpArgs_ne _ _) (neg_ent h1 X I T (wpAny_mono h (fun v s1 ⟨b, e, q⟩ => ⟨b, e, by first | exact q | exact wpAny_pure q⟩) fun _ _ z => z))))
theorem neg_bound {args : List Value} {Q : Option Value → Shared → Prop} (X : K.In s.heap) (I : PySem.W.InstAt s.heap x ox C od) (T : OwnE K C f)
    (h : wpAny M A (call (.builtin "object.__ne__") (.ref x :: args)) (fun v => Q (some v)) E s) : wpAny M A (callSpecialIfBound? (.ref x) "__ne__" args) Q E s := by
  simp only [callSpecialIfBound?, bindSpecialIfBound?]
  refine wpAny_holding (wpAny_bind (wpAny_bind (wpAny_bind (I.type.here ((PySem.W.looks_findIn X T.ne).here ?_)))))
  have last : wpAny M A (call (.builtin "object.__ne__") ([.ref x] ++ args) >>= fun v => pure (some v)) Q E s := wpAny_bind (wpAny_mono h (fun v s1 q => wpAny_pure q) fun _ _ z => z)
  refine wpAny_bind (wpAny_askSetting (wpAny_ite ?_))
  split
  · exact wpAny_bind (wpAny_of_eq (F.cmp_object.ne.bind _) (wpAny_pure (by exact last)))
  · exact wpAny_tryCatch (wpAny_bind (wpAny_of_eq (F.cmp_object.ne.bind _) (wpAny_pure (by exact last))))
theorem neg_cmp {Q : Value → Shared → Prop} {oy : Obj} {ody : Option Obj} (h0 : A.units < cLine) (h1 : A.in1.units < cLine) (X : K.In s.heap) (I : PySem.W.InstAt s.heap x ox C od) (J : PySem.W.InstAt s.heap y oy C ody) (T : OwnE K C f)
    (h : wpAny (model prog w) A.in1 (call (.ref f) [.ref x, .ref y]) (fun v s1 => ∃ b, v = .bool b ∧ Q (.bool (!b)) s1) E s) : wpAny (model prog w) A (richCompare .NotEq (.ref x) (.ref y)) Q E s := by
  unfold richCompare
  simp only [oneThing_ref]
  refine wpAny_holding (wpAny_bind (wpAny_cRoomFor h0 ?_))
  rw [cmpInfo_NotEq]
  dsimp only
  refine wpAny_bind (I.type.here (wpAny_bind (J.type.here ?_)))
  rw [show (Value.ref C != Value.ref C) = false from by simp]
  simp only [Bool.false_eq_true, if_false]
  refine wpAny_bind (wpAny_pure ?_)
  simp only [Bool.false_eq_true, if_false]
  have one : wpAny (model prog w) A (tryCompare (.ref x) "__ne__" (.ref y)) (fun r s1 => ∃ b, r = some (.bool b) ∧ Q (.bool b) s1) E s := by
    unfold tryCompare
    refine wpAny_bind (neg_bound X I T (neg_call h1 X I T (wpAny_mono h (fun v s1 ⟨b, e, q⟩ => ⟨b, e, ?_⟩) fun _ _ z => z)))
    exact wpAny_pure ⟨!b, rfl, q⟩
  refine wpAny_bind (wpAny_mono one (fun r s1 ⟨b, e, q⟩ => ?_) fun _ _ z => z)
  subst e
  first | exact wpAny_pure q | exact wpAny_pure (wpAny_pure q)
end
section
variable {X : Cx} {CX : CXT} {P : Program} {w : World} {K : PySem.W.Frag} {mg : Str → Option Value} {base : Heap} {N : List Str} {sc : Scope} {k j : Nat} {σ : L2.St} {H : Hp} {Q : VK} {nx bk ct : L2.St → Hp → Prop} {rt : VK} {sp : Sp} {E : XK}
/-- x != y, both of the class at C, whose == keeps sp -/
theorem o_neM {C f a b dx dy : Addr} {fd : FuncData} {ps : List Str} {fs gs : List (Str × V)} (Cc : Ctx X P w K mg base N sc k) (T : OwnE K C f) (F : FnOk P w K mg base CX j f fd ps sp) (hb : Binds K fd ps []) (hj : j + 1 ≤ k) (hx : Passes CX X E)
    (ha : H a = some (.ins C dx fs)) (hb2 : H b = some (.ins C dy gs)) (h : sp [.ref a, .ref b] H (fun v H1 => ∃ r, v = .bl r ∧ Q (.bl (!r)) H1) E) : zO X (compareOp .NotEq) (.ref a) (.ref b) H Q := by
  obtain ⟨rfl, rfl, rfl, rfl, rfl, _, _, _, hr0, _, _⟩ := Cc
  refine zO_of (r := fun x y H1 Q1 => x = .ref a ∧ y = .ref b ∧ H1 = H ∧ Q1 = Q) (fun pins s σ H1 x y v u Q1 I rx ry ⟨e1, e2, e3, e4⟩ => ?_) ⟨rfl, rfl, rfl, rfl⟩
  subst e1 e2 e3 e4
  cases rx
  cases ry
  have hr : Room (j + 1) X.A := hr0.mono hj
  obtain ⟨mA, J, _⟩ := ins_get I.hok ha
  obtain ⟨mB, J', _⟩ := ins_get I.hok hb2
  obtain ⟨od, J, _⟩ := J.look
  obtain ⟨od', J', _⟩ := J'.look
  show wpAny (model X.prog X.w) X.A (richCompare .NotEq _ _) (EP X pins σ Q1) X.xe s
  have hl := F.len _ _ _ _ h
  have r2 : Vals [V.ref a, V.ref b] [Value.ref a, Value.ref b] := .cons rfl (.cons rfl .nil)
  refine neg_cmp hr.units0 hr.in1.units0 I.kIn J J' T (wpAny_call (codeAny_mono (F.run X.A.in1 X.stack s H1 ⟨[.ref a, .ref b], []⟩ [.ref a, .ref b] [.ref a, .ref b] _ E hr.in1 I.env0.in1 (by
    have := hb s [.ref a, .ref b] I.kIn (by simpa using hl)
    simpa using this) r2 h) fun r s' hq => ?_))
  cases r with
  | error e => exact hx pins σ H1 s e s' I hq
  | ok fl =>
    cases fl with
    | ret w =>
      obtain ⟨z, H', I', rz, b, ez, q⟩ := I.after hq
      subst ez
      cases rz
      exact ⟨b, rfl, .bl (!b), H', I', rfl, q⟩
    | next => exact False.elim hq
    | brk => exact False.elim hq
    | cont => exact False.elim hq
/-- a property of the class at C, read -/
structure CalP (P : Program) (w : World) (K : PySem.W.Frag) (mg : Str → Option Value) (base : Heap) (CX : CXT) (C : Addr) (y : Str) (j : Nat) (sp : Sp) : Prop where
  ex : ∃ (p g : Addr) (fd : FuncData) (ps : List Str), PropOf K C y p g ∧ FnOk P w K mg base CX j g fd ps sp ∧ Cls K C ∧ Binds K fd ps []
theorem e_prop {C : Addr} {y : Str} {o : Expr} {pos : Pos} (Cc : Ctx X P w K mg base N sc k) (c : CalP P w K mg base CX C y j sp) (hj : j + 1 ≤ k) (hx : Passes CX X.nox E)
    (h : zE X o σ H fun x H1 => ∃ a dx fs, x = .ref a ∧ H1 a = some (.ins C dx fs) ∧ sp [.ref a] H1 Q E) (hb : attributeBase o y X.env (eval o X.env) = eval o X.env := by rfl) : zE X (.Attribute o y pos) σ H Q := by
  obtain ⟨p, g, fd, ps, h1, F, h2, h3⟩ := c.ex
  obtain ⟨rfl, rfl, rfl, rfl, rfl, _, _, _, hr, _, _⟩ := Cc
  exact zE_of (pe_prop (dvs := []) (zE_ok o) h2 h1 F (hr.mono hj) h3 .nil hx hb) h
/-- isinstance(a, x), a of the class x itself -/
theorem e_isiC {x : Str} {CA : Addr} {a : Expr} {p p2 pos : Pos} (C : Ctx X P w K mg base N sc k) (hm : mg "isinstance" = none) (g : mg x = some (.ref CA)) (ic : C8.InsC K CA) (h : zE X a σ H fun v H1 => ∃ b dx fs, v = .ref b ∧ H1 b = some (.ins CA dx fs) ∧ Q (.bl true) H1)
    (hg : gloB sc "isinstance" = true := by decide +kernel) (hg2 : gloB sc x = true := by decide +kernel) (hd : (x == ("__debug__" : Str)) = false := by decide)
    (he : starEach [a, .Name x p2] X.env = (false, eval a X.env) :: starEach [.Name x p2] X.env := by rfl) (he2 : starEach [.Name x p2] X.env = (false, eval (.Name x p2) X.env) :: starEach [] X.env := by rfl) (hpl : (backTo pos (starEach [.Name x p2] X.env)).any (·.1) = false := by rfl) :
    zE X (.Call (.Name "isinstance" p) [a, .Name x p2] [] pos) σ H Q := by
  refine e_callB (C.gl hg) (by rw [C.mgl]; exact hm) (by decide +kernel : bootBuiltins "isinstance" = some (.builtin "isinstance")) (a_cons (zE_mono h fun v H1 ⟨b, dx, fs, h1, h2, h3⟩ => a_cons (e_gref C g (a_nil ?_) hg2 hd) he2) he) (he := he) (hpl := hpl)
  exact zC_of (C8.call_isC (by rw [C.frg]; exact ic)) ⟨b, dx, fs, by rw [h1], h2, h3⟩
/-- a tuple and another, neither empty -/
theorem o_addT {a b : Addr} {xs ys : List V} (h1 : SqT X.K H a xs) (h2 : SqT X.K H b ys) (hx : xs ≠ []) (hy : ys ≠ []) (hz : xs.length + ys.length ≤ sizeLine) (h : ∀ p H', H p = none → Ex H H' → H' p = some (.tup (xs ++ ys)) → Q (.ref p) H') :
    zO X (binaryOp .Add) (.ref a) (.ref b) H Q := zO_of op_catA ⟨a, b, xs, ys, rfl, rfl, h1, h2, hz, fun z => absurd z hx, fun _ z => absurd z hy, fun _ _ p np => h p _ np (Evl.Ex.new np) upd_same⟩
/-- tuple(a) -/
theorem e_tup1 {a : Expr} {p pos : Pos} (C : Ctx X P w K mg base N sc k) (hm : mg "tuple" = none) (h : zE X a σ H fun v H1 => zC X (.type "tuple") [v] H1 Q) (hg : gloB sc "tuple" = true := by decide +kernel) (he : starEach [a] X.env = (false, eval a X.env) :: starEach [] X.env := by rfl) : zE X (.Call (.Name "tuple" p) [a] [] pos) σ H Q :=
  e_callT (C.gl hg) (by rw [C.mgl]; exact hm) (by decide +kernel) (a_cons (zE_mono h fun v H1 q => a_nil q) he) (he := he)
theorem c_tupL {l : Addr} {xs : List V} (hl : SqL X.K H l xs) (h : ∀ p H', H p = none → Ex H H' → H' p = some (.tup xs) → Q (.ref p) H') : zC X (.type "tuple") [.ref l] H Q := zC_of call_tuple_of ⟨l, xs, rfl, .inl ⟨hl, fun p np => h p _ np (Evl.Ex.new np) upd_same⟩⟩
/-- raise x(), x an own error without a value -/
theorem pmk_0 {x : Str} {C fI : Addr} {fd : FuncData} {ps : List Str} {p pos : Pos} (T : OexC X.K C) (iC : PySem.W.findIn X.K (.ref C) "__init__" = some (some (.ref fI))) (tI : PySem.W.typeIn X.K (.ref fI) = some (.type "function")) (F1 : FnOk X.prog X.w X.K X.mg X.base CX j fI fd ps sp) (hr : Room (j + 1) X.A) (hb : Binds X.K fd ps [])
    (hx : Passes CX X (fun _ _ _ => False)) (hg : Gl X x) (hm : X.mg x = some (.ref C)) (hd : (x == ("__debug__" : Str)) = false) :
    PMk X (.Call (.Name x p) [] [] pos) (fun _ H1 R => ∀ a, H1 a = none → sp [.ref a] (upd H1 a (exo a C none)) (fun v H2 => v = .non ∧ ∃ (d : Addr) (fs : List (Str × V)), H2 a = some (exo a C (some d)) ∧ H2 d = some (exd d fs) ∧ H1 d = none ∧ R (.ref C) (some d) (upd (del H2 a) d (.xd fs))) (fun _ _ _ => False)) := by
  intro pins s σ H R I h
  obtain ⟨nm, q, N, bs, bm, sn, sub, ab, col, dd, k0, k1, k2, k3, k5, hC, hbm⟩ := T.cls
  refine wpAny_Call_Name_kw (ld_glob I hg hm (PySem.W.callWith_K0 I.kIn T.kC ?_) hd)
  obtain ⟨hp, g, dr, tk, os⟩ := s
  have sz : hp.objs.size ≤ hp.objs.size + 1 := Nat.le_succ _
  have na : H (hp.objs.size + 1) = none := I.hok.fresh sz
  have hq := h (hp.objs.size + 1) na
  obtain ⟨h2, e2⟩ : ∃ h2 : Heap, h2 = (hp.push (PySem.W.kdv_tup [])).push (PySem.HandSPX.excO C hp.objs.size) := ⟨_, rfl⟩
  have kk : ∀ b o, hp.get? b = some o → h2.get? b = some o := fun b o e => by rw [e2]; exact Heap.get?_push_of_some _ (Heap.get?_push_of_some _ e)
  have ga : h2.get? (hp.objs.size + 1) = some (PySem.HandSPX.excO C hp.objs.size) := by rw [e2]; heap_get
  have I2 : Inv X pins σ (upd H (hp.objs.size + 1) (exo (hp.objs.size + 1) C none)) ⟨h2, g, dr, tk, os⟩ := I.laid (t' := tk) (a := hp.objs.size + 1) (o := exo (hp.objs.size + 1) C none) (h' := h2) kk sz (exo_ok ga)
  have r2 : Vals [V.ref (hp.objs.size + 1)] [Value.ref (hp.objs.size + 1)] := .cons rfl .nil
  have hl : [Value.ref (hp.objs.size + 1)].length = ps.length := by rw [← F1.len _ _ _ _ hq]; rfl
  subst e2
  refine wpAny_call (PySem.HandSPX.call_own (rest := []) F.excBase_ValueError (fun Y => PySem.HandSPX.refsVE_contains Y bm hbm) (I.kIn _ _ hC) (PySem.W.looks_findIn I.kIn iC) (fun self => PySem.W.bind_fn I.kIn self tI) (by show 0 ≤ sizeLine; decide)
    (codeAny_mono (F1.run _ X.stack _ _ ⟨[Value.ref (hp.objs.size + 1)], []⟩ [Value.ref (hp.objs.size + 1)] _ _ (fun _ _ _ => False) (hr.make C [] []) (I2.env0.make C [] []) (by
      have := hb _ [Value.ref (hp.objs.size + 1)] I2.kIn hl
      simpa using this) r2 hq) fun r s' hq' => ?_))
  cases r with
  | error er => exact hx pins σ _ _ er s' I2 hq'
  | ok fl =>
    cases fl with
    | ret u =>
      obtain ⟨v, H2, os2, bare2, un2, hok2, rv, ev, d, fs, ea, ed, hd1, q2⟩ := hq'
      subst ev
      obtain ⟨h3, g2, d2, t2, os'⟩ := s'
      exact ⟨rv, mk_end (raises_own T.exC T.tyC) I sz kk un2 hok2 os2 bare2 ea ed hd1 q2⟩
    | next => exact False.elim hq'
    | brk => exact False.elim hq'
    | cont => exact False.elim hq'
/-- an own error's class x, at CA: made without a value, it bears the fields fs -/
structure ExK0 (P : Program) (w : World) (K : PySem.W.Frag) (mg : Str → Option Value) (base : Heap) (x : Str) (CA : Addr) (fs : List (Str × V)) : Prop where
  ox : OexC K CA
  gl : mg x = some (.ref CA)
  ini : ∃ (fI : Addr) (fd : FuncData) (ps : List Str), PySem.W.findIn K (.ref CA) "__init__" = some (some (.ref fI)) ∧ PySem.W.typeIn K (.ref fI) = some (.type "function") ∧ Binds K fd ps [] ∧
    FnOk P w K mg base CX0 1 fI fd ps (fun vs H Q _ => ∃ a, vs = [.ref a] ∧ H a = some (exo a CA none) ∧ ∀ dx, H dx = none → dx ≠ a → Q .non (upd (upd H dx (exd dx fs)) a (exo a CA (some dx))))
theorem s_raise0 {x : Str} {CA : Addr} {fs : List (Str × V)} {W : WX} {p pos pos' : Pos} (C : Ctx X P w K mg base N sc k) (xk : ExK0 P w K mg base x CA fs) (tk : Takes X W) (hk : 2 ≤ k)
    (h : ∀ d, H d = none → W (.ref CA) (some d) σ (upd H d (.xd fs))) (hg : gloB sc x = true := by decide +kernel) (hdb : (x == ("__debug__" : Str)) = false := by decide) : zS X (.Raise (some (.Call (.Name x p) [] [] pos)) none pos') nx rt bk ct σ H := by
  obtain ⟨fI, fd, ps, h1, h2, h3, F⟩ := xk.ini
  have hgl := C.gl hg
  obtain ⟨rfl, rfl, rfl, rfl, rfl, rfl, rfl, hc, hr, _, _⟩ := C
  refine zS_of (ps_raise hc tk (pmk_0 xk.ox h1 h2 F (hr.mono hk) h3 (fun _ _ _ _ _ _ _ h => h.elim) hgl xk.gl hdb)) ?_
  refine fun a ha => ⟨a, rfl, upd_same, fun dx hd hda => ⟨rfl, dx, fs, upd_same, ?_, ?_, ?_⟩⟩
  · rw [upd_ne hda, upd_same]
  · rw [upd_ne hda] at hd; exact hd
  · have hd' : H dx = none := by rw [upd_ne hda] at hd; exact hd
    have e1 : upd (del (upd (upd (upd H a (exo a CA none)) dx (exd dx fs)) a (exo a CA (some dx))) a) dx (.xd fs) = upd H dx (.xd fs) := by
      funext b
      by_cases hb : b = dx
      · subst hb; rw [upd_same, upd_same]
      · rw [upd_ne hb, upd_ne hb]
        by_cases hba : b = a
        · subst hba; rw [del_same, ha]
        · rw [del_ne hba, upd_ne hba, upd_ne hb, upd_ne hba]
    rw [e1]
    exact h dx hd'
end
/-! ### in the head -/
theorem ownB_ok {K : PySem.W.Frag} {C : Addr} (h : ownB K C = true) : OwnE K C (He.ma K C "__eq__") := by
  obtain ⟨h1, h⟩ := He.ba h
  obtain ⟨h2, h⟩ := He.ba h
  obtain ⟨h3, h4⟩ := He.ba h
  exact ⟨He.eqO_ok h1, He.eqO_ok h2, h3, of_decide_eq_true h4⟩
theorem insB_ok {K : PySem.W.Frag} {C : Addr} (c : Cls K C) (h : insB K C = true) : C8.InsC K C := by
  obtain ⟨h1, h⟩ := He.ba h
  obtain ⟨h2, h⟩ := He.ba h
  obtain ⟨h3, h⟩ := He.ba h
  obtain ⟨h4, h5⟩ := He.ba h
  exact ⟨c, He.eqO_ok h1, He.eqO_ok h2, of_decide_eq_true h3, of_decide_eq_true h4, of_decide_eq_true h5⟩
end Z

/-! len, repr, in, == by a class's own methods; texts of numbers; lists turned about, emptied -/
namespace Z
open PySem L2
/-- the class at C has the method nm of its own, at f -/
structure OwnF (K : PySem.W.Frag) (C f : Addr) (nm : Str) : Prop where
  at_ : PySem.W.findIn K (.ref C) nm = some (some (.ref f))
  fn : PySem.W.isFn K (.ref f) = true
structure CalS (P : Program) (w : World) (K : PySem.W.Frag) (mg : Str → Option Value) (base : Heap) (CX : CXT) (C : Addr) (nm : Str) (j : Nat) (sp : Sp) : Prop where
  ex : ∃ (f : Addr) (fd : FuncData) (ps : List Str), OwnF K C f nm ∧ FnOk P w K mg base CX j f fd ps sp ∧ Binds K fd ps []
section
variable {X : Cx} {CX : CXT} {P : Program} {w : World} {K : PySem.W.Frag} {mg : Str → Option Value} {base : Heap} {N : List Str} {sc : Scope} {k j : Nat} {σ : L2.St} {H : Hp} {Q : VK} {nx bk ct : L2.St → Hp → Prop} {rt : VK} {sp : Sp} {E : XK} {pins : List (Addr × Obj)} {s : Shared} {f : Addr} {fd : FuncData} {ps : List Str} {vs : List V} {us : List Value}
theorem fn_run (I : Inv X pins σ H s) (F : FnOk X.prog X.w X.K X.mg X.base CX j f fd ps sp) (hb : Binds X.K fd ps []) (hx : Passes CX X E) (hr : Room j X.A) (r : Vals vs us) (h : sp vs H Q E) : wpAny (model X.prog X.w) X.A (call (.ref f) us) (EP X pins σ Q) X.xe s := by
  have hl := F.len _ _ _ _ h
  have hl2 := Paired.length r
  refine wpAny_call (codeAny_mono (F.run X.A X.stack s H ⟨us, []⟩ us vs Q E hr I.env0 (by
    have := hb s us I.kIn (by simp; omega)
    simpa using this) r h) fun r s' hq => ?_)
  cases r with
  | error e => exact hx pins σ H s e s' I hq
  | ok fl =>
    cases fl with
    | ret w => obtain ⟨z, H', I', rz, q⟩ := I.after hq; exact ⟨z, H', I', rz, q⟩
    | next => exact False.elim hq
    | brk => exact False.elim hq
    | cont => exact False.elim hq
theorem fn_run1 (I : Inv X pins σ H s) (F : FnOk X.prog X.w X.K X.mg X.base CX j f fd ps sp) (hb : Binds X.K fd ps []) (hx : Passes CX X E) (hr : Room (j + 1) X.A) (r : Vals vs us) (h : sp vs H Q E) : wpAny (model X.prog X.w) X.A.in1 (call (.ref f) us) (EP X pins σ Q) X.xe s := by
  have hl := F.len _ _ _ _ h
  have hl2 := Paired.length r
  refine wpAny_call (codeAny_mono (F.run X.A.in1 X.stack s H ⟨us, []⟩ us vs Q E hr.in1 I.env0.in1 (by
    have := hb s us I.kIn (by simp; omega)
    simpa using this) r h) fun r s' hq => ?_)
  cases r with
  | error e => exact hx pins σ H s e s' I hq
  | ok fl =>
    cases fl with
    | ret w => obtain ⟨z, H', I', rz, q⟩ := I.after hq; exact ⟨z, H', I', rz, q⟩
    | next => exact False.elim hq
    | brk => exact False.elim hq
    | cont => exact False.elim hq
/-- len(x) by an own __len__ -/
theorem c_lenM {C a dx : Addr} {fs : List (Str × V)} (Cc : Ctx X P w K mg base N sc k) (c : CalS P w K mg base CX C "__len__" j sp) (hj : j + 1 ≤ k) (hx : Passes CX X E) (ha : H a = some (.ins C dx fs))
    (h : sp [.ref a] H (fun v H1 => ∃ n : Nat, v = .int n ∧ n < 1000000 ∧ Q (.int n) H1) E) : zC X (.builtin "len") [.ref a] H Q := by
  obtain ⟨f, fd, ps, T, F, hb⟩ := c.ex
  obtain ⟨rfl, rfl, rfl, rfl, rfl, _, _, _, hr0, _, _⟩ := Cc
  refine zC_of (r := fun xs H1 Q1 => xs = [.ref a] ∧ H1 = H ∧ Q1 = Q) (fun pins s σ H1 xs us Q1 I r ⟨e1, e2, e3⟩ => ?_) ⟨rfl, rfl, rfl⟩
  subst e1 e2 e3
  have hr : Room (j + 1) X.A := hr0.mono hj
  obtain ⟨u, rfl, ru⟩ := r.one
  cases ru
  obtain ⟨mA, J, _⟩ := ins_get I.hok ha
  obtain ⟨od, J, _⟩ := J.look
  obtain ⟨m, hF⟩ := I.fr
  refine PySem.W.len_K hF I.ok.mod.kin J T.at_ T.fn (wpAny_mono (fn_run1 I F hb hx hr (vs := [.ref a]) (.cons rfl .nil) h) (fun v s1 ⟨z, H', I', rz, n, ez, hn, q⟩ => ?_) fun _ _ z => z)
  subst ez
  obtain ⟨t, rfl⟩ := (show ∃ t, v = Value.int (n : Int) t from rz)
  exact ⟨⟨by omega, by omega⟩, .int n, H', I'.tok _, ⟨_, rfl⟩, q⟩
/-- repr(x) by an own __repr__ -/
theorem c_reprM {C a dx : Addr} {fs : List (Str × V)} (Cc : Ctx X P w K mg base N sc k) (c : CalS P w K mg base CX C "__repr__" j sp) (hj : j + 1 ≤ k) (hx : Passes CX X E) (ha : H a = some (.ins C dx fs))
    (h : sp [.ref a] H (fun v H1 => ∃ z, v = .str z ∧ Q (.str z) H1) E) : zC X (.builtin "repr") [.ref a] H Q := by
  obtain ⟨f, fd, ps, T, F, hb⟩ := c.ex
  obtain ⟨rfl, rfl, rfl, rfl, rfl, _, _, _, hr0, _, _⟩ := Cc
  refine zC_of (r := fun xs H1 Q1 => xs = [.ref a] ∧ H1 = H ∧ Q1 = Q) (fun pins s σ H1 xs us Q1 I r ⟨e1, e2, e3⟩ => ?_) ⟨rfl, rfl, rfl⟩
  subst e1 e2 e3
  have hr : Room (j + 1) X.A := hr0.mono hj
  obtain ⟨u, rfl, ru⟩ := r.one
  cases ru
  obtain ⟨mA, J, _⟩ := ins_get I.hok ha
  obtain ⟨od, J, _⟩ := J.look
  obtain ⟨m, hF⟩ := I.fr
  refine PySem.W.repr_K hr.in1.units0 hF I.ok.mod.kin J T.at_ T.fn (wpAny_mono (fn_run1 I F hb hx hr (vs := [.ref a]) (.cons rfl .nil) h) (fun v s1 ⟨z, H', I', rz, y, ez, q⟩ => ?_) fun _ _ z => z)
  subst ez
  obtain ⟨t, rfl⟩ := (show ∃ t, v = Value.str y t from rz)
  exact ⟨.str y, H', I', ⟨t, rfl⟩, q⟩
/-- v in x by an own __contains__ -/
theorem o_inM {C a dx : Addr} {v : V} {fs : List (Str × V)} (Cc : Ctx X P w K mg base N sc k) (c : CalS P w K mg base CX C "__contains__" j sp) (hj : j ≤ k) (hx : Passes CX X E) (ha : H a = some (.ins C dx fs))
    (h : sp [.ref a, v] H (fun y H1 => ∃ b, y = .bl b ∧ Q (.bl b) H1) E) : zO X (compareOp .In) v (.ref a) H Q := by
  obtain ⟨f, fd, ps, T, F, hb⟩ := c.ex
  obtain ⟨rfl, rfl, rfl, rfl, rfl, _, _, _, hr0, _, _⟩ := Cc
  refine zO_of (r := fun x y H1 Q1 => x = v ∧ y = .ref a ∧ H1 = H ∧ Q1 = Q) (fun pins s σ H1 x y u1 u2 Q1 I rx ry ⟨e1, e2, e3, e4⟩ => ?_) ⟨rfl, rfl, rfl, rfl⟩
  subst e1 e2 e3 e4
  cases ry
  obtain ⟨mA, J, _⟩ := ins_get I.hok ha
  obtain ⟨od, J, _⟩ := J.look
  obtain ⟨m, hF⟩ := I.fr
  refine PySem.W.in_K hF I.ok.mod.kin J T.at_ T.fn (wpAny_mono (fn_run I F hb hx (hr0.mono hj) (vs := [.ref a, x]) (.cons rfl (.cons rx .nil)) h) (fun v s1 ⟨z, H', I', rz, b, ez, q⟩ => ?_) fun _ _ z => z)
  subst ez
  cases rz
  exact wpAny_truthy_bool ⟨.bl b, H', I', rfl, q⟩
theorem c_bool (b : Bool) {R : Value → Shared → Prop} {s1 : Shared} (h : R (.bool b) s1) : PySem.W.CmpBack R (.bool b) s1 := h
/-- x == y by x's own ==: y a built-in thing, or of x's class -/
theorem o_eqM {C a dx : Addr} {y : V} {fs : List (Str × V)} (Cc : Ctx X P w K mg base N sc k) (c : CalS P w K mg base CX C "__eq__" j sp) (hj : j ≤ k) (hx : Passes CX X E) (ha : H a = some (.ins C dx fs))
    (hy : (∃ t, TyX K H y (.type t) ∧ PySem.W.subIn K (.type t) (.ref C) = some false) ∨ (∃ b dy gs, y = .ref b ∧ H b = some (.ins C dy gs))) (h : sp [.ref a, y] H (fun v H1 => ∃ b, v = .bl b ∧ Q (.bl b) H1) E) : zO X (compareOp .Eq) (.ref a) y H Q := by
  obtain ⟨f, fd, ps, T, F, hb⟩ := c.ex
  obtain ⟨rfl, rfl, rfl, rfl, rfl, _, _, _, hr0, _, _⟩ := Cc
  refine zO_of (r := fun x y1 H1 Q1 => x = .ref a ∧ y1 = y ∧ H1 = H ∧ Q1 = Q) (fun pins s σ H1 x y1 u1 u2 Q1 I rx ry ⟨e1, e2, e3, e4⟩ => ?_) ⟨rfl, rfl, rfl, rfl⟩
  subst e1 e2 e3 e4
  cases rx
  obtain ⟨mA, J, _⟩ := ins_get I.hok ha
  obtain ⟨od, J, _⟩ := J.look
  obtain ⟨m, hF⟩ := I.fr
  have hc : wpAny (model X.prog X.w) X.A (call (.ref f) [.ref a, u2]) (PySem.W.CmpBack (EP X pins σ Q1)) X.xe s := wpAny_mono (fn_run I F hb hx (hr0.mono hj) (vs := [.ref a, y1]) (.cons rfl (.cons ry .nil)) h) (fun v s1 ⟨z, H', I', rz, b, ez, q⟩ => by
    subst ez
    cases rz
    exact c_bool b ⟨.bl b, H', I', rfl, q⟩) fun _ _ z => z
  show wpAny (model X.prog X.w) X.A (richCompare .Eq _ _) (EP X pins σ Q1) X.xe s
  rcases hy with ⟨t, ht, hs⟩ | ⟨b, dy, gs, rfl, hb2⟩
  · obtain ⟨PP, kx, hP, _⟩ := kit_of I ry ht
    exact PySem.W.cmp_K hr0.units0 hF I.ok.mod.kin J (kx.ty _ _ I.kIn hP) (by simp [PySem.W.notFirst, hs]) T.at_ T.fn hc
  · cases ry
    obtain ⟨mB, J', _⟩ := ins_get I.hok hb2
    obtain ⟨od', J', _⟩ := J'.look
    exact PySem.W.cmp_K hr0.units0 hF I.ok.mod.kin J J'.type (by simp [PySem.W.notFirst]) T.at_ T.fn hc
/-- isinstance(a, x), a of a built-in kind, x an own class -/
theorem e_isiN {x : Str} {CA : Addr} {a : Expr} {p p2 pos : Pos} (C : Ctx X P w K mg base N sc k) (hm : mg "isinstance" = none) (g : mg x = some (.ref CA)) (h : zE X a σ H fun v H1 => ∃ t b, TyX X.K H1 v (.type t) ∧ PySem.W.kitOne X.K (.type t) (.ref CA) = some b ∧ Q (.bl b) H1)
    (hg : gloB sc "isinstance" = true := by decide +kernel) (hg2 : gloB sc x = true := by decide +kernel) (hd : (x == ("__debug__" : Str)) = false := by decide)
    (he : starEach [a, .Name x p2] X.env = (false, eval a X.env) :: starEach [.Name x p2] X.env := by rfl) (he2 : starEach [.Name x p2] X.env = (false, eval (.Name x p2) X.env) :: starEach [] X.env := by rfl) (hpl : (backTo pos (starEach [.Name x p2] X.env)).any (·.1) = false := by rfl) :
    zE X (.Call (.Name "isinstance" p) [a, .Name x p2] [] pos) σ H Q := by
  refine e_callB (C.gl hg) (by rw [C.mgl]; exact hm) (by decide +kernel : bootBuiltins "isinstance" = some (.builtin "isinstance")) (a_cons (zE_mono h fun v H1 ⟨t, b, h1, h2, h3⟩ => a_cons (e_gref C g (a_nil ?_) hg2 hd) he2) he) (he := he) (hpl := hpl)
  exact zC_of call_isi ⟨v, .ref CA, .type t, .ref CA, b, rfl, .own CA, h1, h2, h3⟩
/-- str(a), a a number -/
theorem e_str1 {a : Expr} {p pos : Pos} (C : Ctx X P w K mg base N sc k) (hm : mg "str" = none) (h : zE X a σ H fun v H1 => ∃ i : Int, v = .int i ∧ i.natAbs.log2 < 1920 ∧ Q (.str (toString i)) H1) (hg : gloB sc "str" = true := by decide +kernel) (he : starEach [a] X.env = (false, eval a X.env) :: starEach [] X.env := by rfl) : zE X (.Call (.Name "str" p) [a] [] pos) σ H Q :=
  e_callT (C.gl hg) (by rw [C.mgl]; exact hm) (by decide +kernel) (a_cons (zE_mono h fun v H1 ⟨i, e, h1, h2⟩ => a_nil (zC_of call_str_int ⟨i, by rw [e], h1, h2⟩)) he) (he := he)
/-- repr(a) -/
theorem e_repr (C : Ctx X P w K mg base N sc k) {a : Expr} {p pos : Pos} (hm : mg "repr" = none) (h : zE X a σ H fun v H1 => zC X (.builtin "repr") [v] H1 Q) (hg : gloB sc "repr" = true := by decide +kernel) (he : starEach [a] X.env = (false, eval a X.env) :: starEach [] X.env := by rfl) : zE X (.Call (.Name "repr" p) [a] [] pos) σ H Q := e_b1 C hm (by decide +kernel) h hg (by decide) (by decide) he
/-- l[::-1] -/
theorem e_revL {e : Expr} {kk : Nat} {p1 p2 p3 pos : Pos} (h : zE X e σ H fun v H1 => ∃ l xs, v = .ref l ∧ SqL X.K H1 l xs ∧ ∀ p H2, H1 p = none → Ex H1 H2 → H2 p = some (.lst xs.reverse) → Q (.ref p) H2) :
    zE X (.Subscript e (.Slice none none (some (.UnaryOp .USub (.Constant (.int 1) kk p1) p2)) p3) pos) σ H Q := zE_of (pe_revL (zE_ok e)) (zE_mono h fun v H1 ⟨l, xs, h1, h2, h3⟩ => ⟨l, xs, h1, h2, fun p np => h3 p _ np (Evl.Ex.new np) upd_same⟩)
theorem e_clear {o : Expr} {apos cpos : Pos} (h : zE X o σ H fun v H1 => ∃ l xs, v = .ref l ∧ H1 l = some (.lst xs) ∧ ∀ H3, Xb l H1 H3 → H3 l = some (.lst []) → Q .non H3)
    (hp : PE X (.Call (.Attribute o "clear" apos) [] [] cpos) (tBM0 X.K "list" rClear (zE X o)) := by exact pe_bm0 PySem.F.plainAttrs_list PySem.F.slot_list_clear PySem.F.type_list_clear mt_clear (zE_ok _)) : zE X (.Call (.Attribute o "clear" apos) [] [] cpos) σ H Q :=
  zE_of hp (zE_mono h fun v H1 ⟨l, xs, h1, h2, h3⟩ => by
    subst h1
    exact ⟨Or.inl ⟨rfl, xs, SqL.of h2⟩, l, xs, rfl, rfl, h2, h3 _ .upd upd_same⟩)
end
end Z

/-! enumerate of a tuple -/
namespace PySem
open Sem (wp)
open AutoSeq1 (wpAny_loadPart')
theorem meets_enumT (l : Addr) (items : Array Value) (n : Nat) (dct : Option Addr) (sl : Array (Option Value)) :
    Meets (Builtin.«enumerate.__new__» ⟨[.type "enumerate", .ref l], []⟩) (fun _ R s => s.heap.get? l = some { cls := .type "tuple", dict := dct, data := .seq items n, slots := sl } ∧
      R (.ok (.ret (.ref (s.heap.push { cls := .type "tuple_iterator", data := .fields #[.ref l, .int 0 0] }).objs.size))) { s with heap := (s.heap.push { cls := .type "tuple_iterator", data := .fields #[.ref l, .int 0 0] }).push { cls := .type "enumerate", data := .fields #[.none, .bool false, .ref s.heap.objs.size, rawInt 0, .none, .none] } }) :=
  .of_wp fun prog w A R s ⟨hl, h⟩ => by
    obtain ⟨hp, g, d, tk, os⟩ := s
    have sub := sub_enumerate
    have hL : Heap.IsTuple (Shared.heap ⟨hp, g, d, tk, os⟩) l items := ⟨_, hl, rfl, n, rfl⟩
    wp_walk using wpAny_loadPart' hl
    refine wpAny_stack_any fun st => wpAny_pure ?_
    split
    · rename_i c _ _ _ _ _
      cases (c == Value.type "enumerate") <;> (wp_walk using wpAny_loadPart' hl, wpAny_pyIter_tuple hL; exact ⟨_, rfl, h⟩)
    · wp_walk using wpAny_loadPart' hl, wpAny_pyIter_tuple hL
      exact ⟨_, rfl, h⟩
theorem call_enumT {prog : Program} {w : World} {A : Around} {E : Value → Shared → Prop} {s : Shared} {l : Addr} {items : Array Value} {Q : Value → Shared → Prop} (hL : s.heap.IsTuple l items)
    (h : ∀ h', IsEnum h' (s.heap.objs.size + 1) s.heap.objs.size 0 .none → h'.IsTupleIter s.heap.objs.size l 0 → (∀ b o, s.heap.get? b = some o → h'.get? b = some o) → Q (.ref (s.heap.objs.size + 1)) { s with heap := h' }) :
    wpAny (model prog w) A (call (.type "enumerate") [.ref l]) Q E s := by
  obtain ⟨⟨c, dct, dt, sl⟩, hl, hc, n, hd⟩ := hL
  obtain rfl : c = .type "tuple" := hc
  obtain rfl : dt = .seq items n := hd
  refine callType_new F.called_enumerate (by decide) (F.typeCall_enumerate_1 _) (F.newCall_enumerate_1 _) (fun obj => F.args_object_init_2 obj _) F.entry_enumerate_new (meets_enumT l items n dct sl) ⟨hl, ?_⟩
  obtain ⟨h1, e1⟩ : ∃ h1, h1 = s.heap.push { cls := .type "tuple_iterator", data := .fields #[.ref l, .int 0 0] } := ⟨_, rfl⟩
  have hz : h1.objs.size = s.heap.objs.size + 1 := by rw [e1]; exact Heap.size_push ..
  show _ ∧ _
  rw [← e1, hz]
  have he : IsEnum (h1.push { cls := .type "enumerate", data := .fields #[.none, .bool false, .ref s.heap.objs.size, rawInt 0, .none, .none] }) (s.heap.objs.size + 1) s.heap.objs.size 0 .none := by
    have q := Heap.get?_push_size h1 (o := { cls := .type "enumerate", data := .fields #[.none, .bool false, .ref s.heap.objs.size, rawInt 0, .none, .none] }) rfl
    rw [hz] at q
    exact q
  have hi : h1.get? s.heap.objs.size = some { cls := .type "tuple_iterator", data := .fields #[.ref l, .int 0 0] } := by rw [e1]; exact Heap.get?_push_size _ rfl
  exact ⟨⟨_, he, rfl⟩, h _ he ⟨_, Heap.get?_push_of_some _ hi, rfl, rfl⟩ fun b o x => Heap.get?_push_of_some _ (by rw [e1]; exact Heap.get?_push_of_some _ x)⟩
end PySem
namespace Z
open PySem L2
def IteT (K : PySem.W.Frag) (a : Addr) : It :=
  ⟨fun i H => ∃ xs x, SqT K H a xs ∧ xs[i]? = some x, fun i H v H' => ∃ T x, v = .ref T ∧ H T = none ∧ H' = upd H T (.tup [.int (i : Nat), x]) ∧ ∀ xs, SqT K H a xs → xs[i]? = some x, fun i H => ∃ xs, SqT K H a xs ∧ xs.length ≤ i⟩
theorem walk_enumT {K : PySem.W.Frag} (a : Addr) (xs : List V) : Walk (IteT K a) xs.length (fun H => SqT K H a xs) (fun i x H' => ∃ T y, x = .ref T ∧ xs[i]? = some y ∧ H' T = some (.tup [.int (i : Int), y])) where
  go := fun i H hi h => ⟨xs, xs[i], h, by simp [hi]⟩
  stop := fun H h => ⟨xs, h, Nat.le_refl _⟩
  yld := fun i H x H' hi h y => by
    obtain ⟨T, z, e, hT, e2, y⟩ := y
    subst e2
    exact ⟨Evl.Ex.new hT, T, z, e, y xs h, upd_same⟩
theorem turn_enumT {P : Program} {w : World} {K : PySem.W.Frag} {elts : List Expr} {kk : Nat} {tpos : Pos} (a e it : Addr) :
    Turn P w K (.Tuple elts kk tpos) (IteT K a) [e, it] e (fun i h => (∃ old, IsEnum h e it ((i : Nat) : Int) old) ∧ h.IsTupleIter it a i ∧ e ≠ it) where
  mem := List.mem_cons_self
  obj := fun i h ⟨⟨old, he⟩, ⟨o, ho, hc, hd⟩, _⟩ b hb => by
    rcases List.mem_cons.mp hb with q | hb
    · exact ⟨_, by rw [q]; exact he, fun v x => by cases x⟩
    · rw [List.mem_singleton.mp hb]
      exact ⟨o, ho, fun v x => by rw [hd] at x; cases x⟩
  keep := fun i h h' ⟨⟨old, he⟩, ⟨o, ho, r⟩, hne⟩ k => ⟨⟨old, k e (by simp) _ he⟩, ⟨o, k it (by simp) o ho, r⟩, hne⟩
  item := fun X hP hw hK hc i ps s σ H E I hf ⟨⟨old, he⟩, hit, hne⟩ hg => by
    cases hP; cases hw; cases hK
    obtain ⟨xs, x, hq, hx⟩ := hg
    obtain ⟨its, rv, ⟨ot, et, ct, nt, dt⟩, hz⟩ := I.tuple hq
    obtain ⟨u, hu, ru⟩ := rv.get hx
    have hT0 : s.heap.IsTuple a its.toArray := ⟨ot, et, ct, nt, dt⟩
    have hel : e < s.heap.objs.size := Heap.lt_size he
    have hil : it < s.heap.objs.size := by obtain ⟨_, q, _⟩ := hit; exact Heap.lt_size q
    have hai : a ≠ it := fun z => by
      obtain ⟨o, q, c, _⟩ := hit
      rw [← z, et] at q
      rw [← Option.some.inj q, ct] at c
      exact absurd (Value.type.inj c) (by decide)
    have hae : a ≠ e := fun z => by
      have q := (show s.heap.get? e = some _ from he)
      rw [← z, et] at q
      rw [Option.some.inj q] at ct
      exact absurd (Value.type.inj ct) (by decide)
    have hlen : i < its.toArray.size := by
      have h1 := rv.length
      have h2 := (List.getElem?_eq_some_iff.mp hx).1
      simp
      omega
    refine wpAny_pyNext_enum_itemD (Draws.tuple (A := X.A.in1) (I.ok.hd hc) it a hai its.toArray) he ⟨hit, hT0⟩ hlen hne (fun z => by
      rcases List.mem_cons.mp z with z | z
      · exact hne z
      · exact hae (List.mem_singleton.mp z).symm) fun y h' tk hy ho hit' hT hsz hk => ?_
    have hy : y = u := by
      have h1 : its[i]? = some y := by simpa using hy
      rw [hu] at h1
      exact (Option.some.inj h1).symm
    subst hy
    refine ⟨_, rfl, wpAny_letOwnedTupleGo_enum (s := { s with heap := h', toks := tk + 1 }) ho fun h2 he' sb => ?_⟩
    have hT2 := (sb.2 _ (Nat.ne_of_gt hel)).trans hT
    have new : ObjOk X.prog X.w (upd H s.heap.objs.size (.tup [.int (i : Nat), x])) h2 s.heap.objs.size (.tup [.int (i : Nat), x]) := ⟨by show 2 ≤ sizeLine; decide, _, .cons ⟨tk, rfl⟩ (.cons ru .nil), ⟨_, hT2, rfl, _, rfl⟩⟩
    have I1 := I.turnedNew (t' := tk + 1) (ch := [e, it]) (fun b ob hb q => (sb.2 b (fun y => hb (by simp [y]))).trans (hk b ob (fun y => hb (by simp [y])) (fun y => hb (by simp [y])) q)) hf (Nat.le_refl _) new
    have e1 : ((i + 1 : Nat) : Int) = (i : Int) + 1 := by omega
    refine ⟨.ref s.heap.objs.size, _, I1, rfl, ⟨_, x, rfl, I.hok.fresh (Nat.le_refl _), rfl, fun ys hys => by rw [I.tuple_inj hys hq]; exact hx⟩, ⟨⟨y, by rw [e1]; exact he'⟩, ?_, hne⟩, fun b hb => ?_⟩
    · obtain ⟨⟨o, q, r⟩, _⟩ := hit'
      exact ⟨o, (sb.2 it (Ne.symm hne)).trans q, r⟩
    · have hb' : b < s.heap.objs.size := by
        rcases List.mem_cons.mp hb with q | hb
        · rw [q]; exact hel
        · rw [List.mem_singleton.mp hb]; exact hil
      rw [upd_ne (Nat.ne_of_lt hb')]
      exact (hf b hb).1
  done := fun X hP hw hK hc i ps s σ H E I hf ⟨⟨old, he⟩, hit, hne⟩ hg => by
    cases hP; cases hw; cases hK
    obtain ⟨xs, hq, hx⟩ := hg
    obtain ⟨its, rv, ⟨ot, et, ct, nt, dt⟩, hz⟩ := I.tuple hq
    have hT0 : s.heap.IsTuple a its.toArray := ⟨ot, et, ct, nt, dt⟩
    have hai : a ≠ it := fun z => by
      obtain ⟨o, q, c, _⟩ := hit
      rw [← z, et] at q
      rw [← Option.some.inj q, ct] at c
      exact absurd (Value.type.inj c) (by decide)
    obtain ⟨f0, f1, f2, f3, f4, f5⟩ := hf it (by simp)
    have hl := rv.length
    have hnone : its.toArray[i]? = none := by simp; omega
    have D : Draws X.prog X.w X.A.in1 it [it, a] i (fun _ _ => False) (fun k h => k = i ∧ h.IsTupleIter it a i ∧ h.IsTuple a its.toArray) :=
      { live := fun _ _ st => let ⟨o, ho, _⟩ := st.2.1; ⟨o, ho⟩
        frame := fun _ _ _ st hk => ⟨st.1, st.2.1.at fun o e => hk it (by simp) o e, st.2.2.at fun o e => hk a (by simp) o e⟩
        item := fun k s Q E hk st hQ => absurd st.1 (by omega)
        done := fun s Q E st hE => wpAny_nextOf_tuple_end (I.ok.hd hc) st.2.1 st.2.2 hnone hE }
    exact wpAny_pyNext_enum_endD D he ⟨rfl, hit, hT0⟩ fun h' eb => ⟨rfl, I.turned (t' := s.toks) (fun b o hb q => eb b o hb q) f0 f1 f3 f4 f5⟩
  self := fun A i s Q E ⟨⟨_, he⟩, _⟩ h => wpAny_pyIter_enum he h
theorem pi_enumT {X : Cx} {e : Expr} {elts : List Expr} {kk : Nat} {p pos tpos : Pos} (hg : Gl X "enumerate") (hm : X.mg "enumerate" = none) (hs : starEach [e] X.env = [(false, eval e X.env)] := by rfl) :
    PI X (.Tuple elts kk tpos) (.Call (.Name "enumerate" p) [e] [] pos) (fun σ H R => zA X [e] σ H fun vs H1 => ∃ a xs, vs = [.ref a] ∧ SqT X.K H1 a xs ∧ R (IteT X.K a) H1) := ⟨fun ps s σ H R I h => by
  refine PyProof.Rows.Call_ (ld_blt I hg hm PyProof.Rows.boot_enumerate (PyProof.Rows.callWith_type1 (thn ((zA_ok [e]).run pos ps s σ H _ I h) fun us s1 ⟨vs, H1, I1, r1, a, xs, ex, hq, q⟩ => ?_) hs rfl))
  subst ex
  obtain ⟨u, rfl, ru⟩ := r1.one
  cases ru
  obtain ⟨its, rv, ⟨ot, et, ct, nt, dt⟩, hz⟩ := I1.tuple hq
  refine call_enumT (items := its.toArray) ⟨ot, et, ct, nt, dt⟩ fun h' he hit hk => wpAny_pyIter_enum he ?_
  have I2 : Inv X ps σ H1 { s1 with heap := h' } := I1.kept (t' := s1.toks) hk
  refine ⟨s1.heap.objs.size + 1, [s1.heap.objs.size + 1, s1.heap.objs.size], _, _, H1, rfl, I2, turn_enumT a (s1.heap.objs.size + 1) s1.heap.objs.size, ⟨⟨.none, he⟩, hit, Nat.succ_ne_self _⟩, fun b hb => ?_, q⟩
  have hle : s1.heap.objs.size ≤ b := by
    rcases List.mem_cons.mp hb with y | hb
    · exact Nat.le_trans (Nat.le_add_right _ 1) (Nat.le_of_eq y.symm)
    · exact Nat.le_of_eq (List.mem_singleton.mp hb).symm
  exact I1.fpOk hle (I1.hok.fresh hle)⟩
theorem i_enumT {X : Cx} {σ : St} {H : Hp} {R : It → Hp → Prop} {e : Expr} {elts : List Expr} {kk : Nat} {p pos tpos : Pos} (hg : Gl X "enumerate") (hm : X.mg "enumerate" = none) (h : zE X e σ H fun x H1 => ∃ a xs, x = .ref a ∧ SqT X.K H1 a xs ∧ R (IteT X.K a) H1)
    (hs : starEach [e] X.env = [(false, eval e X.env)] := by rfl) : zI X (.Tuple elts kk tpos) (.Call (.Name "enumerate" p) [e] [] pos) σ H R :=
  zI_of (pi_enumT hg hm hs) (a_cons (zE_mono h fun v H1 ⟨a, xs, e, h1, h2⟩ => a_nil ⟨a, xs, by rw [e], h1, h2⟩) hs)
/-! ### a list or a tuple -/
def SqB (K : PySem.W.Frag) (b : Bool) (H : Hp) (a : Addr) (xs : List V) : Prop := match b with
  | true => SqL K H a xs
  | false => SqT K H a xs
def IteB (K : PySem.W.Frag) (b : Bool) (a : Addr) : It := match b with
  | true => Ite K a
  | false => IteT K a
theorem walk_enumB {K : PySem.W.Frag} (b : Bool) (a : Addr) (xs : List V) : Walk (IteB K b a) xs.length (fun H => SqB K b H a xs) (fun i x H' => ∃ T y, x = .ref T ∧ xs[i]? = some y ∧ H' T = some (.tup [.int (i : Int), y])) := match b with
  | true => walk_enum a xs
  | false => walk_enumT a xs
theorem SqB.ex {K : PySem.W.Frag} {b : Bool} {H H' : Hp} {a : Addr} {xs : List V} (h : SqB K b H a xs) (e : Ex H H') : SqB K b H' a xs := match b, h with
  | true, h => ex_l e h
  | false, h => ex_t e h
theorem SqB.or {K : PySem.W.Frag} {b : Bool} {H : Hp} {a : Addr} {xs : List V} (h : SqB K b H a xs) : SqL K H a xs ∨ SqT K H a xs := match b, h with
  | true, h => .inl h
  | false, h => .inr h
section
variable {X : Cx} {σ : St} {H : Hp} {Q : VK} {R : It → Hp → Prop}
theorem i_enumB {b : Bool} {e : Expr} {elts : List Expr} {kk : Nat} {p pos tpos : Pos} (hg : Gl X "enumerate") (hm : X.mg "enumerate" = none) (h : zE X e σ H fun x H1 => ∃ a xs, x = .ref a ∧ SqB X.K b H1 a xs ∧ R (IteB X.K b a) H1)
    (hs : starEach [e] X.env = [(false, eval e X.env)] := by rfl) : zI X (.Tuple elts kk tpos) (.Call (.Name "enumerate" p) [e] [] pos) σ H R := match b, h with
  | true, h => i_enum hg hm h hs
  | false, h => i_enumT hg hm h hs
theorem c_lenB {b : Bool} {l : Addr} {xs : List V} (hl : SqB X.K b H l xs) (h : Q (.int (xs.length : Int)) H) : zC X (.builtin "len") [.ref l] H Q := match b, hl with
  | true, hl => c_lenL hl h
  | false, hl => c_lenT hl h
theorem c_listB {b : Bool} {l : Addr} {xs : List V} (hl : SqB X.K b H l xs) (h : ∀ p H', H p = none → Ex H H' → H' p = some (.lst xs) → Q (.ref p) H') : zC X (.type "list") [.ref l] H Q := match b, hl with
  | true, hl => c_listL hl h
  | false, hl => c_listT hl h
end
/-! ### f'..{a}..{b}..' of numbers -/
theorem slen (u v : Str) : (u ++ v).length = u.length + v.length := by rw [len_tl, tl_app, List.length_append, ← len_tl, ← len_tl]
theorem small_log {n : Nat} (h : n < 1000000) : (n : Int).natAbs.log2 < 1920 := by
  rw [Int.natAbs_natCast]
  by_cases h0 : n = 0
  · rw [h0]; decide
  · have : n.log2 < 20 := (Nat.log2_lt h0).mpr (by omega)
    omega
theorem e_js2 {X : Cx} {σ : L2.St} {H : Hp} {Q : VK} {e1 e2 : Expr} {s1 s2 s3 : Str} {j1 j2 j3 : Nat} {p1 p2 p3 q1 q2 pos : Pos}
    (h : zE X e1 σ H fun x1 H1 => ∃ n1 : Nat, x1 = .int n1 ∧ n1 < 1000000 ∧ (toString (n1 : Int) : Str).length ≤ 1000 ∧ zE X e2 σ H1 fun x2 H2 => ∃ n2 : Nat, x2 = .int n2 ∧ n2 < 1000000 ∧ (toString (n2 : Int) : Str).length ≤ 1000 ∧
      Q (.str (((((Str.empty ++ s1) ++ (toString (n1 : Int) : Str)) ++ s2) ++ (toString (n2 : Int) : Str)) ++ s3)) H2) (hs : s1.length + s2.length + s3.length ≤ 1000) :
    zE X (.JoinedStr [.Constant (.str s1) j1 p1, .FormattedValue e1 (-1) none q1, .Constant (.str s2) j2 p2, .FormattedValue e2 (-1) none q2, .Constant (.str s3) j3 p3] pos) σ H Q := by
  have L : (100000 : Nat) ≤ sizeLine := by decide
  have L0 : (Str.empty : Str).length = 0 := rfl
  refine zE_of (pe_joined (.cons (zE_ok (.Constant (.str s1) j1 p1)) (.cons (pe_fmt (zE_ok e1)) (.cons (zE_ok (.Constant (.str s2) j2 p2)) (.cons (pe_fmt (zE_ok e2)) (.cons (zE_ok (.Constant (.str s3) j3 p3)) .nil)))))) ?_
  refine e_str ⟨s1, rfl, by rw [slen]; omega, ?_⟩
  refine zE_mono h fun x1 H1 ⟨n1, hx1, hn1, hl1, h2⟩ => .inr ⟨n1, hx1, small_log hn1, _, rfl, by rw [slen, slen]; omega, ?_⟩
  refine e_str ⟨s2, rfl, by rw [slen, slen, slen]; omega, ?_⟩
  refine zE_mono h2 fun x2 H2 ⟨n2, hx2, hn2, hl2, h3⟩ => .inr ⟨n2, hx2, small_log hn2, _, rfl, by rw [slen, slen, slen, slen]; omega, ?_⟩
  exact e_str ⟨s3, rfl, by rw [slen, slen, slen, slen, slen]; omega, h3⟩
theorem ownFB_ok {K : PySem.W.Frag} {C : Addr} {nm : Str} (h : ownFB K C nm = true) : OwnF K C (He.ma K C nm) nm := by
  obtain ⟨h1, h2⟩ := He.ba h
  exact ⟨He.eqO_ok h1, h2⟩
theorem kindB_ok {K : PySem.W.Frag} {C : Addr} {t : String} (h : kindB K C t = true) : PySem.W.kitOne K (.type t) (.ref C) = some false ∧ PySem.W.subIn K (.type t) (.ref C) = some false := by
  obtain ⟨h1, h2⟩ := He.ba h
  exact ⟨of_decide_eq_true h1, of_decide_eq_true h2⟩
end Z

/-! comprehensions that change what was there; [l.pop() for k in range(n)] -/
namespace Z
open PySem L2
variable {X : Cx} {P : Program} {w : World} {K : PySem.W.Frag} {mg : Str → Option Value} {base : Heap} {N : List Str} {sc : Scope} {k : Nat} {σ : L2.St} {H : Hp} {Q : VK} {tg : Expr}
/-- as Comp, where Acc alone tells what stands -/
structure CompW (X : Cx) (tg elt : Expr) (ifs : List Expr) (scope : Scope) (own : List Nat) (σ : L2.St) (H : Hp) (n : Nat) (S : Hp → Prop) (Y : Nat → V → Hp → Prop) (Acc : Addr → Nat → List V → Hp → Prop) : Prop where
  small : n ≤ 100000
  start : ∀ D, H D = none → Acc D 0 [] (upd H D (.lst []))
  src : ∀ D i ys H', Acc D i ys H' → S H'
  len : ∀ D i ys H', Acc D i ys H' → ys.length ≤ i
  turn : ∀ D i x ys H0 H', i < n → H D = none → H0 D = some (.lst ys) → Acc D i ys H0 → Ex H0 H' → Y i x H' → zGb X scope tg x (wipe σ own) H' fun σ2 H2 => wipe σ2 own = wipe σ own ∧
    zTb X scope ifs σ2 H2 fun b H3 => if b = true then zEb X scope elt σ2 H3 fun y H4 => H4 D = some (.lst ys) ∧ Acc D (i + 1) (ys ++ [y]) (upd H4 D (.lst (ys ++ [y]))) else H3 D = some (.lst ys) ∧ Acc D (i + 1) ys H3
theorem lc_runW {J : It} {H1 : Hp} {n : Nat} {S : Hp → Prop} {Y : Nat → V → Hp → Prop} {elt : Expr} {ifs : List Expr} {scope : Scope} {own : List Nat} {Acc : Addr → Nat → List V → Hp → Prop} (W : Walk J n S Y) (L : CompW X tg elt ifs scope own σ H1 n S Y Acc)
    {Qd : V → Hp → Prop} (hd : ∀ D ys H', H1 D = none → H' D = some (.lst ys) → Acc D n ys H' → Qd (.ref D) H') (D : Addr) (hD : H1 D = none) : ∃ W : Nat → Nat → Hp → Prop, (∃ m, W 0 m (upd H1 D (.lst []))) ∧ ∀ i m H, W i m H →
  (J.stop i H ∧ Qd (.ref D) H) ∨ (J.go i H ∧ ∃ Nx : Hp → Prop, (∀ H', Nx H' → ∃ m', m' < m ∧ W (i + 1) m' H') ∧ ∀ x H', J.yld i H x H' → zGb X scope tg x (wipe σ own) H' fun σ2 H2 => wipe σ2 own = wipe σ own ∧ zTb X scope ifs σ2 H2 fun b H3 =>
    if b = true then zEb X scope elt σ2 H3 fun y H4 => ∃ acc, H4 D = some (.lst acc) ∧ acc.length < sizeLine ∧ Nx (upd H4 D (.lst (acc ++ [y]))) else Nx H3) := by
  refine ⟨fun i m H => m = n - i ∧ i ≤ n ∧ ∃ ys, H D = some (.lst ys) ∧ Acc D i ys H, ⟨n, rfl, Nat.zero_le _, [], upd_same, L.start D hD⟩, ?_⟩
  rintro i m H ⟨rfl, hi, ys, h1, h3⟩
  by_cases hlt : i < n
  · refine .inr ⟨W.go i H hlt (L.src D i ys H h3), fun H' => ∃ ys, H' D = some (.lst ys) ∧ Acc D (i + 1) ys H', fun H' ⟨ys, a, c⟩ => ⟨n - (i + 1), by omega, rfl, hlt, ys, a, c⟩, fun x H' y => ?_⟩
    obtain ⟨e1, y1⟩ := W.yld i H x H' hlt (L.src D i ys H h3) y
    refine zGb_mono (L.turn D i x ys H H' hlt hD h1 h3 e1 y1) fun σ2 H2 ⟨w1, h4⟩ => ⟨w1, zTb_mono h4 fun b H3 h5 => ?_⟩
    cases b with
    | false => exact ⟨ys, h5⟩
    | true =>
      refine zEb_mono (show zEb X scope elt σ2 H3 _ from h5) fun v H4 ⟨e4, h6⟩ => ⟨ys, e4, small_lt ?_, _, upd_same, h6⟩
      have := L.len D i ys H h3
      have := L.small
      omega
  · have e : i = n := by omega
    subst e
    exact .inl ⟨W.stop H (L.src D i ys H h3), hd D ys H hD h1 h3⟩
theorem e_lcW {elt it : Expr} {ifs : List Expr} {scope : Scope} {own : List (Str × Nat)} {pos : Pos} (C : Ctx X P w K mg base N sc k) (hb : blkC N sc scope own = true)
    (h : zI X tg it σ H fun J H1 => ∃ n S Y Acc, Walk J n S Y ∧ CompW X tg elt ifs scope (own.map (·.2)) σ H1 n S Y Acc ∧ ∀ D ys H', H1 D = none → H' D = some (.lst ys) → Acc D n ys H' → Q (.ref D) H')
    (hs : ∀ x, foldedSetIterable it X.env x = pure x := by intro _; rfl) : zE X (.ListComp elt [⟨tg, it, ifs, 0⟩] scope pos) σ H Q := by
  refine zE_of (pe_lc (own := own) C.calm (by rw [C.nms]; exact C.nd) (zI_ok tg it) (by rw [C.nms, C.scp]; exact blkOk_by hb) (g := zGb X scope tg) (tt := zTb X scope ifs) (te := zEb X scope elt)
    (fun s H0 c0 cl fp => ⟨fun ps s' σ H v u Q I r q => (zG_ok tg).run ps s' σ H v u Q I r (q s H0 c0 cl fp)⟩) (fun s H0 c0 cl fp => ⟨fun ps s' σ H Q I q => (zTs_ok ifs).run ps s' σ H Q I (q s H0 c0 cl fp)⟩)
    (fun s H0 c0 cl fp => ⟨fun ps s' σ H Q I q => (zE_ok elt).run ps s' σ H Q I (q s H0 c0 cl fp)⟩) hs) ?_
  show zI X tg it σ H _
  exact zI_mono h fun J H1 ⟨n, S, Y, Acc, W, L, hd⟩ D hD => lc_runW W L hd D hD
/-- all but l as it was -/
def Xl (l : Addr) (H H' : Hp) : Prop := Xb l H H'
/-- [x.pop() for y in range(m)] -/
theorem e_pops {x y : Str} {i j : Nat} {px py ap cp : Pos} {it : Expr} {scope : Scope} {own : List (Str × Nat)} {pos : Pos} {l : Addr} {xs : List V} {m : Nat} (C : Ctx X P w K mg base N sc k) (hb : blkC N sc scope own = true)
    (hit : zI X (.Name y py) it σ H fun J H1 => H1 = H ∧ ∃ S, Walk J m S (fun _ _ _ => True) ∧ (∀ H', S H') ∧ ∀ i H0 x H', J.yld i H0 x H' → H' = H0)
    (hl : H l = some (.lst xs)) (hm : m ≤ xs.length) (hm2 : m ≤ 100000) (h1 : N[j]? = some y) (h2 : lclB (relS scope sc) y = true) (hw : ∀ v, wipe ((wipe σ (own.map (·.2))).set j (some v)) (own.map (·.2)) = wipe σ (own.map (·.2)))
    (nl : ∀ X1, Ctx X1 P w K mg base N (relS scope sc) k → Nm X1 x i) (hs : ∀ v, ((wipe σ (own.map (·.2))).set j (some v))[i]? = some (some (.ref l)))
    (h : ∀ D H', H D = none → H' D = some (.lst (xs.reverse.take m)) → H' l = some (.lst (xs.take (xs.length - m))) → (∀ b o, b ≠ l → H b = some o → H' b = some o) → Q (.ref D) H')
    (hd : (x == ("__debug__" : Str)) = false := by decide) (hcd : (x == ("__classdict__" : Str)) = false := by decide) (hfs : ∀ x, foldedSetIterable it X.env x = pure x := by intro _; rfl)
    (hp : ∀ X2 : Cx, PE X2 (.Call (.Attribute (.Name x px) "pop" ap) [] [] cp) (tBM0 X2.K "list" rPop (zE X2 (.Name x px))) := by intro X2; exact pe_bm0 PySem.F.plainAttrs_list PySem.F.slot_list_pop PySem.F.type_list_pop mt_pop (zE_ok _)) :
    zE X (.ListComp (.Call (.Attribute (.Name x px) "pop" ap) [] [] cp) [⟨.Name y py, it, [], 0⟩] scope pos) σ H Q := by
  refine e_lcW C hb (zI_mono hit fun J H1 ⟨e1, S, W, hS, hY⟩ => ?_) hfs
  subst e1
  refine ⟨m, S, _, fun D t ys H' => D ≠ l ∧ t ≤ m ∧ ys = xs.reverse.take t ∧ H' l = some (.lst (xs.take (xs.length - t))) ∧ ∀ b o, b ≠ l → H1 b = some o → H' b = some o, W, ?_, fun D ys H' hD hD2 ⟨a1, a2, a3, a4, a5⟩ => h D H' hD (by rw [hD2, a3]) a4 a5⟩
  refine ⟨hm2, fun D hD => ⟨fun e => (by rw [e, hl] at hD; cases hD), Nat.zero_le _, by rw [List.take_zero], ?_, fun b o hb hb2 => ?_⟩, fun _ _ _ H' _ => hS H', fun D t ys H' ⟨_, _, a3, _⟩ => by rw [a3, List.length_take]; omega, ?_⟩
  · rw [upd_ne (fun e => (by rw [← e, hl] at hD; cases hD)), hl, Nat.sub_zero, List.take_length]
  · rw [upd_ne (fun e => (by rw [e, hD] at hb2; cases hb2))]; exact hb2
  · intro D t v ys H0 H' ht hD hD0 ⟨a1, a2, a3, a4, a5⟩ e1 _
    refine gb_intro C fun X1 C1 => g_name (C1.ns h1 (by unfold locB; unfold lclB at h2; rw [h2]; rfl) (.inr h2)) ⟨hw v, fun _ _ _ _ _ => ts_nil (if_pos rfl ▸ eb_intro C fun X2 C2 => ?_)⟩
    have hlt : xs.length - t - 1 < xs.length := by omega
    have hsp : xs.take (xs.length - t) = xs.take (xs.length - (t + 1)) ++ [xs[xs.length - t - 1]] := by
      have := List.take_append_getElem hlt
      rw [show xs.length - t - 1 + 1 = xs.length - t by omega] at this
      rw [← this, show xs.length - (t + 1) = xs.length - t - 1 by omega]
    refine e_pop (hp := hp X2) (e_name (nl X2 C2) (hs v) ⟨l, xs.take (xs.length - (t + 1)), xs[xs.length - t - 1], rfl, by rw [e1 _ _ a4, hsp], fun H3 x3 hl3 => ⟨x3 _ _ a1 (e1 _ _ hD0), a1, by omega, ?_, ?_, fun b o hb hb2 => ?_⟩⟩ hd hcd)
    · rw [a3]
      have ht2 : t < xs.reverse.length := by rw [List.length_reverse]; omega
      rw [← List.take_append_getElem ht2, List.getElem_reverse]
      congr 3
      omega
    · rw [upd_ne (Ne.symm a1), hl3]
    · have hbD : b ≠ D := fun e => by rw [e, hD] at hb2; cases hb2
      rw [upd_ne hbD]
      exact x3 _ _ hb (e1 _ _ (a5 _ _ hb hb2))
end Z

/-! dicts: get with a default, items; a thing locked for an expression; min of two -/
namespace Z
open PySem L2
variable {X : Cx} {P : Program} {w : World} {K : PySem.W.Frag} {mg : Str → Option Value} {base : Heap} {N : List Str} {sc : Scope} {k : Nat} {σ : L2.St} {H : Hp} {Q : VK} {tg : Expr}
/-- d is locked while e runs -/
theorem e_locked {e : Expr} {d : Addr} {u : HO} (hd : H d = some u) (mu : Mut (some u)) (h : ∀ od, zE X e σ (upd H d (.frz od u)) fun v H' => H' d = some (.frz od u) ∧ Q v (upd H' d u)) : zE X e σ H Q := by
  unfold zE at h ⊢
  intro ps s I
  obtain ⟨od, I2⟩ := I.lock hd mu
  have hn := I.nofrz hd mu
  exact thn (h od ps s I2) fun v s1 ⟨x, H1, I1, rx, h1, q⟩ => ⟨x, _, I1.unlock h1 hn, rx, q⟩
/-- d.get(y, z) -/
theorem e_get2 {o e f : Expr} {apos cpos : Pos} (C : Ctx X P w K mg base N sc k) (h : zE X o σ H fun x H1 => ∃ a, x = .ref a ∧ IsD H1 a ∧ zE X e σ H1 fun y H2 => zE X f σ H2 fun z H3 => ∃ r, DGet H3 a y r ∧ Q (r.getD z) H3)
    (m : M2 X o "get" apos e f cpos := by exact ⟨by rfl, by rfl, by rfl, by rfl⟩) : zE X (.Call (.Attribute o "get" apos) [e, f] [] cpos) σ H Q :=
  zE_of (pe_dget2 (by have := C.room.un; omega) (zE_ok o) (zE_ok e) (zE_ok f) m) h
theorem i_items {e : Expr} {elts : List Expr} {kk : Nat} {tpos apos cpos : Pos} {R : It → Hp → Prop} (h : zE X e σ H fun x H1 => ∃ d o kvs, x = .ref d ∧ H1 d = some (.frz o (.dK kvs)) ∧ R (Iti d o kvs) H1)
    (hbase : attributeBase e "items" X.env (eval e X.env) = eval e X.env := by rfl) (hline : (apos.endLine == cpos.line) = true := by rfl) : zI X (.Tuple elts kk tpos) (.Call (.Attribute e "items" apos) [] [] cpos) σ H R :=
  zI_of (pi_items (zE_ok e) hbase hline) h
theorem walk_itemsK {d : Addr} {o : Obj} {kvs : List (Key × V)} : Z.Walk (Iti d o kvs) kvs.length (fun H => H d = some (.frz o (.dK kvs))) (fun i x H' => ∃ T q v, x = .ref T ∧ kvs[i]? = some (q, v) ∧ H' T = some (.tup [kV q, v])) where
  go := fun i H hi h => ⟨h, hi⟩
  stop := fun H h => ⟨h, Nat.le_refl _⟩
  yld := fun i H x H' hi h y => by
    obtain ⟨T, q, v, h1, h2, h3, h4⟩ := y
    subst h4
    exact ⟨Evl.Ex.new h3, T, q, v, h2, h1, upd_same⟩
/-- min(a, b) of numbers -/
theorem e_min2 {a b : Expr} {p pos : Pos} (C : Ctx X P w K mg base N sc k) (hm : mg "min" = none) (h : zE X a σ H fun v H1 => zE X b σ H1 fun u H2 => ∃ i j : Int, v = .int i ∧ u = .int j ∧ Q (.int (min i j)) H2) (hg : gloB sc "min" = true := by decide +kernel)
    (he : starEach [a, b] X.env = (false, eval a X.env) :: starEach [b] X.env := by rfl) (he2 : starEach [b] X.env = (false, eval b X.env) :: starEach [] X.env := by rfl) (hpl : (backTo pos (starEach [b] X.env)).any (·.1) = false := by rfl) : zE X (.Call (.Name "min" p) [a, b] [] pos) σ H Q := by
  have hc := C.calm
  refine e_callB (C.gl hg) (by rw [C.mgl]; exact hm) (by decide +kernel : bootBuiltins "min" = some (.builtin "min")) (a_cons (zE_mono h fun v H1 h1 => a_cons (zE_mono h1 fun u H2 ⟨i, j, e1, e2, h2⟩ => a_nil ?_) he2) he) (he := he) (hpl := hpl)
  subst e1 e2
  refine zC_of (call_min2 hc) ⟨i, j, rfl, ?_⟩
  have : (if j < i then j else i) = min i j := by
    by_cases hji : j < i
    · rw [if_pos hji]; omega
    · rw [if_neg hji]; omega
  rw [this]
  exact h2
end Z

/-! comprehensions whose target is a cell (another comprehension within reads it) -/
namespace Z
open PySem L2
variable {X : Cx} {P : Program} {w : World} {K : PySem.W.Frag} {mg : Str → Option Value} {base : Heap} {N : List Str} {sc : Scope} {k : Nat} {σ : L2.St} {H : Hp} {Q : VK}
theorem comp_mapC {x : Str} {j : Nat} {px : Pos} {elt : Expr} {scope : Scope} {own : List Nat} {n : Nat} {S : Hp → Prop} {Y : Nat → V → Hp → Prop} (C : Ctx X P w K mg base N sc k) (g : Nat → V) (hn : n ≤ 100000) (hsrc : ∀ H', Ex H H' → S H')
    (h1 : N[j]? = some x) (h2 : locB (relS scope sc) x = true) (hf : (scope.names.lookup x == some .cell) = true) (hw : ∀ v, wipe ((wipe σ own).set j (some v)) own = wipe σ own)
    (he : ∀ i v H', i < n → Ex H H' → Y i v H' → ∀ X1, Ctx X1 P w K mg base N (relS scope sc) k → zE X1 elt ((wipe σ own).set j (some v)) H' fun y H4 => Ex H' H4 ∧ y = g i) :
    Comp X (.Name x px) elt [] scope own σ H n S Y (fun _ i ys _ => ys = (List.range i).map g) where
  small := hn
  start := fun _ _ _ _ => rfl
  src := hsrc
  keep := fun _ _ _ _ _ _ h => h
  len := fun _ i ys _ h => by rw [h]; simp
  turn := fun D i v ys H' hi hD e1 hl ha hy => fun s H0 c0 cl fp => g_name ((C.blk s H0 scope c0 cl fp).ns h1 h2 (.inl hf)) ⟨hw v, Evl.Ex.refl _, fun _ _ _ _ _ => ts_nil ⟨Evl.Ex.refl _, if_pos rfl ▸ eb_intro C fun X2 C2 =>
    zE_mono (he i v H' hi e1 hy X2 C2) fun y H4 ⟨e4, q⟩ => ⟨e4, by rw [ha, q, List.range_succ, List.map_append]; rfl⟩⟩⟩
/-- the same, of each item a fact is known -/
theorem comp_mapHc {x : Str} {j : Nat} {px : Pos} {elt : Expr} {scope : Scope} {own : List Nat} {n : Nat} {S : Hp → Prop} {Y : Nat → V → Hp → Prop} (C : Ctx X P w K mg base N sc k) (R0 : Nat → V → Hp → Prop) (mono : ∀ i y H H', Ex H H' → R0 i y H → R0 i y H') (hn : n ≤ 100000) (hsrc : ∀ H', Ex H H' → S H')
    (h1 : N[j]? = some x) (h2 : locB (relS scope sc) x = true) (hf : (scope.names.lookup x == some .cell) = true) (hw : ∀ v, wipe ((wipe σ own).set j (some v)) own = wipe σ own)
    (he : ∀ i v H', i < n → Ex H H' → Y i v H' → ∀ X1, Ctx X1 P w K mg base N (relS scope sc) k → zE X1 elt ((wipe σ own).set j (some v)) H' fun y H4 => Ex H' H4 ∧ ∀ D ys, H4 D = some (.lst ys) → H D = none → (∃ zs, H' D = some (.lst zs)) → R0 i y (del H4 D)) :
    Comp X (.Name x px) elt [] scope own σ H n S Y (fun D i ys H' => ys.length = i ∧ ∀ t y, ys[t]? = some y → R0 t y (del H' D)) where
  small := hn
  start := fun _ _ _ _ => ⟨rfl, fun _ _ z => by cases z⟩
  src := hsrc
  keep := fun D i ys H' H'' x ⟨a, b⟩ => ⟨a, fun t y h => mono _ _ _ _ (ex_dels x) (b t y h)⟩
  len := fun _ i ys _ h => by rw [h.1]; exact Nat.le_refl _
  turn := fun D i v ys H' hi hD e1 hl ha hy => fun s H0 c0 cl fp => g_name ((C.blk s H0 scope c0 cl fp).ns h1 h2 (.inl hf)) ⟨hw v, Evl.Ex.refl _, fun _ _ _ _ _ => ts_nil ⟨Evl.Ex.refl _, if_pos rfl ▸ eb_intro C fun X2 C2 =>
    zE_mono (he i v H' hi e1 hy X2 C2) fun y H4 ⟨e4, q⟩ => ⟨e4, by rw [List.length_append, ha.1]; rfl, fun t y' hy' => by
      by_cases e : t < ys.length
      · rw [List.getElem?_append_left e] at hy'
        exact mono _ _ _ _ (ex_dels (Xb.of e4)) (ha.2 t y' hy')
      · have hti : t = ys.length := by
          have := (List.getElem?_eq_some_iff.mp hy').1
          rw [List.length_append] at this
          simp at this
          omega
        subst hti
        rw [List.getElem?_append_right (Nat.le_refl _), Nat.sub_self] at hy'
        cases hy'
        rw [ha.1]
        exact q D ys (e4 _ _ hl) hD ⟨ys, hl⟩⟩⟩⟩
end Z

/-! a text from its end: z[::-1] -/
namespace Z
open PySem L2 PySem.Spec PyProof.Rows
theorem rev_cps (z : Str) : (Builtin.Str.strSliceIndices none none (-1) z.length).filterMap (z.cps[·]?) = (tl z).reverse := by
  show (sliceRange ((z.length : Int) - 1) (-1) (-1)).filterMap (z.cps[·]?) = _
  rw [PySem.W.krv_sliceRange, PySem.W.krv_range, List.filterMap_reverse]
  congr 1
  exact PySem.W.krv_all z.cps
section
variable {X : Cx} {P : Program} {w : World} {K : PySem.W.Frag} {mg : Str → Option Value} {base : Heap} {N : List Str} {sc : Scope} {k : Nat} {σ : L2.St} {H : Hp} {Q : VK}
def tRevS (te : TE) : TE := fun σ H Q => te σ H fun x H1 => ∃ z : Str, x = .str z ∧ z.length ≤ sizeLine ∧ Q (.str ⟨(tl z).reverse.toArray⟩) H1
theorem pe_revS {e : Expr} {te : TE} {k : Nat} {p1 p2 p3 pos : Pos} (he : PE X e te) : PE X (.Subscript e (.Slice none none (some (.UnaryOp .USub (.Constant (.int 1) k p1) p2)) p3) pos) (tRevS te) := by
  refine ⟨fun pins s σ H Q I h => ?_⟩
  refine Subscript_ (thn (he.run pins s σ H _ I h) fun v s1 ⟨x, H1, I1, r1, q1⟩ => ?_)
  obtain ⟨z, ex, hz, q⟩ := q1
  subst ex
  obtain ⟨t, rfl⟩ := r1
  have hst : PO X (some (.UnaryOp .USub (.Constant (.int 1) k p1) p2)) (tPart (tUn (rU fun i => .int (-i)) (tC (.int 1)))) := po_some (pe_un un_neg pe_int)
  refine wpAny_Slice (thn (po_none.run pins s1 σ H1 (fun o H2 => o = none ∧ H2 = H1) I1 ⟨rfl, rfl⟩) fun vl s2 ⟨l, H2, I2, pl, el, e2⟩ => ?_)
  subst el e2
  refine thn (po_none.run pins s2 σ H2 (fun o H3 => o = none ∧ H3 = H2) I2 ⟨rfl, rfl⟩) fun vu s3 ⟨u, H3, I3, pu, eu, e3⟩ => ?_
  subst eu e3
  refine thn (hst.run pins s3 σ H3 (fun o H4 => o = some (-1) ∧ H4 = H3) I3 ⟨1, rfl, -1, rfl, rfl, rfl⟩) fun vs s4 ⟨o, H4, I4, ps, eo, e4⟩ => ?_
  subst eo e4
  have I5 : Inv X pins σ H4 { s4 with heap := s4.heap.push { cls := .type "slice", data := .fields #[vl, vu, vs] } } := I4.kept (t' := s4.toks) fun b ob q => Heap.get?_push_of_some _ q
  cases pl
  cases pu
  obtain ⟨uk, rfl⟩ : ∃ uk, vs = .int (-1) uk := by cases ps; exact ⟨_, rfl⟩
  show wpAny (model X.prog X.w) X.A (subscriptTail e (.Slice none none (some (.UnaryOp .USub (.Constant (.int 1) k p1) p2)) p3) (.str z t) (.ref s4.heap.objs.size)) (EP X pins σ Q) X.xe { s4 with heap := s4.heap.push { cls := .type "slice", data := .fields #[.none, .none, .int (-1) uk] } }
  refine tail_any (T := "str") (id := "str.__getitem__") (ops := [.ref s4.heap.objs.size, .str z t]) (typeIs_str _ _ _) F.slot_str_getitem.lookup ?_ (by with_unfolding_all rfl)
  refine wpAny_getItem_str_slice (l := none) (u := none) (st := some (-1, uk)) ⟨_, Heap.get?_push_size _ rfl, rfl, rfl⟩ rfl ?_
  show Made.post (if ((-1 : Int) == 1 && (Builtin.Str.strSliceIndices none none (-1) z.length).length == z.length) = true then Made.val (.str z t)
    else Made.str ⟨((Builtin.Str.strSliceIndices none none (-1) z.length).filterMap (z.cps[·]?)).toArray⟩) (EP X pins σ Q) _
  rw [if_neg (fun h => by cases (Bool.and_eq_true _ _ ▸ h).1), rev_cps]
  exact ⟨by show (tl z).reverse.toArray.size ≤ sizeLine; rw [List.size_toArray, List.length_reverse]; exact hz, ⟨.str _, H4, I5.tok _, ⟨_, rfl⟩, q⟩⟩
theorem e_revS {e : Expr} {kk : Nat} {p1 p2 p3 pos : Pos} (h : zE X e σ H fun v H1 => ∃ z : Str, v = .str z ∧ z.length ≤ sizeLine ∧ Q (.str ⟨(tl z).reverse.toArray⟩) H1) :
    zE X (.Subscript e (.Slice none none (some (.UnaryOp .USub (.Constant (.int 1) kk p1) p2)) p3) pos) σ H Q := zE_of (pe_revS (zE_ok e)) h
end
end Z

/-! min of a tuple of numbers -/
namespace Z
open PySem L2
section
variable {X : Cx} {P : Program} {w : World} {K : PySem.W.Frag} {mg : Str → Option Value} {base : Heap} {N : List Str} {sc : Scope} {k : Nat} {σ : L2.St} {H : Hp} {Q : VK}
theorem alike_is (ns : List Int) : PySem.W.AlikeAll (ns.map PyData.int) := by
  refine ⟨fun x hx y hy => ?_, fun x hx => ?_⟩
  · obtain ⟨p, _, rfl⟩ := List.mem_map.mp hx
    obtain ⟨q, _, rfl⟩ := List.mem_map.mp hy
    rfl
  · obtain ⟨p, _, rfl⟩ := List.mem_map.mp hx
    exact fun z => by cases z
theorem depth_is : ∀ (ns : List Int), PyData.depthAll (ns.map PyData.int) ≤ 50
  | [] => by decide
  | n :: ns => by
    have := depth_is ns
    show max (PyData.int n).depth (PyData.depthAll (ns.map PyData.int)) ≤ 50
    rw [show (PyData.int n).depth = 0 from rfl]
    omega
theorem c_minT {l : Addr} {n : Int} {ns : List Int} (C : Ctx X P w K mg base N sc k) (hl : SqT X.K H l ((n :: ns).map V.int)) (h : Q (.int (ns.foldl min n)) H) : zC X (.builtin "min") [.ref l] H Q := by
  unfold zC
  intro ps s σ us I r
  obtain ⟨its, rv, hl', _⟩ := I.tuple hl
  rw [Vals.ref1 r]
  have hd : DpAll X.K H ((n :: ns).map V.int) (PyData.int n :: ns.map PyData.int) := dp_ints (zs := n :: ns)
  obtain ⟨as, ra⟩ := Dp.readsAll I _ _ _ hd rv
  have hu := C.room.units
  have hz := depth_is (n :: ns)
  rw [List.map_cons] at hz
  refine PySem.W.min_tuple_data (I.ok.hd C.calm) hl' ra (alike_is (n :: ns)) (by omega) fun i v h' tk bs hv hr hk => ?_
  rw [PySem.W.minD_ints] at hr
  obtain ⟨t, rfl⟩ : ∃ t, v = .int (ns.foldl min n) t := by cases hr; exact ⟨_, rfl⟩
  exact ⟨.int _, H, I.kept hk, ⟨_, rfl⟩, h⟩
end
end Z

/-! zip of a list and a tuple -/
namespace Z
open PySem L2
/-- from turn i on -/
theorem drawsL {prog : Program} {w : World} {A : Around} (hh : A.handled = none) {n l : Addr} (hne : l ≠ n) (vs : Array Value) (i : Nat) :
    Draws prog w A n [n, l] (max vs.size i) (fun k v => vs[k]? = some v) (fun k h => i ≤ k ∧ h.IsListIter n l k ∧ h.IsList l vs) := by
  refine ⟨fun k h ⟨_, ⟨o, ho, _⟩, _⟩ => ⟨o, ho⟩, fun k h h' ⟨q, a, b⟩ up => ⟨q, a.at (up n (by simp)), b.at (up l (by simp))⟩, fun k s Q E hk ⟨q, a, b⟩ go => ?_, fun s Q E ⟨q, a, b⟩ go => ?_⟩
  · have hv : vs[k]? = some (vs[k]'(by omega)) := Array.getElem?_eq_getElem (by omega)
    exact wpAny_nextOf_list_item a b hv fun h2 a2 same => go _ h2 s.toks hv ⟨Nat.le_succ_of_le q, a2, b.extBut same.extBut hne⟩ same
  · exact wpAny_nextOf_list_end hh a b (Array.getElem?_eq_none (by omega)) go
theorem drawsT {prog : Program} {w : World} {A : Around} (hh : A.handled = none) {n t : Addr} (hne : t ≠ n) (vs : Array Value) (i : Nat) :
    Draws prog w A n [n, t] (max vs.size i) (fun k v => vs[k]? = some v) (fun k h => i ≤ k ∧ h.IsTupleIter n t k ∧ h.IsTuple t vs) := by
  refine ⟨fun k h ⟨_, ⟨o, ho, _⟩, _⟩ => ⟨o, ho⟩, fun k h h' ⟨q, a, b⟩ up => ⟨q, a.at (up n (by simp)), b.at (up t (by simp))⟩, fun k s Q E hk ⟨q, a, b⟩ go => ?_, fun s Q E ⟨q, a, b⟩ go => ?_⟩
  · have hv : vs[k]? = some (vs[k]'(by omega)) := Array.getElem?_eq_getElem (by omega)
    exact wpAny_nextOf_tuple_item a b hv fun h2 a2 same => go _ h2 s.toks hv ⟨Nat.le_succ_of_le q, a2, b.extBut same.extBut hne⟩ same
  · exact wpAny_nextOf_tuple_end hh a b (Array.getElem?_eq_none (by omega)) go
/-- the list at a and the tuple at b, side by side -/
def ItzM (K : PySem.W.Frag) (a b : Addr) : It where
  go i H := ∃ us vs y z, (SqL K H a us ∧ us[i]? = some y) ∧ SqT K H b vs ∧ vs[i]? = some z
  yld i H x H' := ∃ T y z, (x = .ref T ∧ H T = none ∧ H' = upd H T (.tup [y, z])) ∧ (∀ us, SqL K H a us → us[i]? = some y) ∧ ∀ vs, SqT K H b vs → vs[i]? = some z
  stop i H := ∃ us vs, (SqL K H a us ∧ SqT K H b vs) ∧ min us.length vs.length ≤ i
theorem walk_zipM {K : PySem.W.Frag} (a b : Addr) (us vs : List V) : Walk (ItzM K a b) (min us.length vs.length) (fun H => SqL K H a us ∧ SqT K H b vs) (fun i x H' => ∃ T y z, x = .ref T ∧ us[i]? = some y ∧ vs[i]? = some z ∧ H' T = some (.tup [y, z])) where
  go := fun i H hi ⟨h1, h2⟩ => ⟨us, vs, us[i]'(by omega), vs[i]'(by omega), ⟨h1, List.getElem?_eq_getElem (by omega)⟩, h2, List.getElem?_eq_getElem (by omega)⟩
  stop := fun H h => ⟨us, vs, h, Nat.le_refl _⟩
  yld := fun i H x H' hi ⟨h1, h2⟩ ⟨T, y, z, ⟨e, nT, eH⟩, f, g⟩ => by
    subst eH
    exact ⟨Evl.Ex.new nT, T, y, z, e, f us h1, g vs h2, upd_same⟩
/-- the five cells of a zip made when the next address is n -/
def zM (n a b : Addr) (i : Nat) (h : Heap) : Prop := IsZip h (n + 4) (n + 2) (n + 3) .none ∧ IsPair h (n + 2) (.ref n) (.ref (n + 1)) ∧ (∃ x y, IsPair h (n + 3) x y) ∧ h.IsListIter n a i ∧ h.IsTupleIter (n + 1) b i
theorem zM_obj {n a b : Addr} {i : Nat} {h : Heap} (m : zM n a b i h) : ∀ c ∈ [n + 4, n + 2, n + 3, n, n + 1], ∃ o, h.get? c = some o ∧ ∀ v, o.data ≠ .cell v := by
  obtain ⟨m1, m2, ⟨x, y, m3⟩, ⟨o4, m4, _, d4⟩, ⟨o5, m5, _, d5⟩⟩ := m
  intro c hc
  simp only [List.mem_cons, List.not_mem_nil, or_false] at hc
  rcases hc with rfl | rfl | rfl | rfl | rfl
  · exact ⟨_, m1, fun v z => nomatch z⟩
  · exact ⟨_, m2, fun v z => nomatch z⟩
  · exact ⟨_, m3, fun v z => nomatch z⟩
  · exact ⟨o4, m4, fun v z => by rw [d4] at z; cases z⟩
  · exact ⟨o5, m5, fun v z => by rw [d5] at z; cases z⟩
theorem zM_up {n a b : Addr} {i : Nat} {h h' : Heap} (m : zM n a b i h) (up : ∀ c ∈ [n + 4, n + 2, n + 3, n, n + 1], ∀ o, h.get? c = some o → h'.get? c = some o) : zM n a b i h' := by
  obtain ⟨m1, m2, ⟨x, y, m3⟩, m4, m5⟩ := m
  exact ⟨up _ (by simp) _ m1, up _ (by simp) _ m2, ⟨x, y, up _ (by simp) _ m3⟩, m4.at (up _ (by simp)), m5.at (up _ (by simp))⟩
theorem turn_zipM {P : Program} {w : World} {K : PySem.W.Frag} {elts : List Expr} {kk : Nat} {tpos : Pos} {n a b : Addr} (ha : (show Nat from a) < n) (hb : (show Nat from b) < n) :
    Turn P w K (.Tuple elts kk tpos) (ItzM K a b) [n + 4, n + 2, n + 3, n, n + 1] (n + 4) (zM n a b) where
  mem := List.mem_cons_self ..
  obj := fun i h m c hc => zM_obj m c hc
  keep := fun i h h' m up => zM_up m up
  item := fun X hP hw hK hc i ps s σ H E I hf m hg => by
    cases hP; cases hw; cases hK
    obtain ⟨us, vs, y, z, ⟨hus, hy⟩, hvs, hz⟩ := hg
    obtain ⟨its, rv, p, _⟩ := I.list hus
    obtain ⟨its2, rv2, p2, _⟩ := I.tuple hvs
    obtain ⟨u, hu, ru⟩ := rv.get hy
    obtain ⟨v, hv, rw2⟩ := rv2.get hz
    have m0 := m
    obtain ⟨m1, m2, ⟨x0, y0, m3⟩, m4, m5⟩ := m
    have hsz : n + 4 < s.heap.objs.size := Heap.lt_size m1
    have hn1 : its.toArray.size ≤ max its.toArray.size i := Nat.le_max_left ..
    have hl1 : i < its.length := (List.getElem?_eq_some_iff.mp hu).1
    have hl2 : i < its2.length := (List.getElem?_eq_some_iff.mp hv).1
    have D1 := drawsL (prog := X.prog) (w := X.w) (A := X.A.in1) (I.ok.hd hc) (Nat.ne_of_lt ha) its.toArray i
    have D2 := drawsT (prog := X.prog) (w := X.w) (A := X.A.in1) (I.ok.hd hc) (n := n + 1) (Nat.ne_of_lt (Nat.lt_succ_of_lt hb)) its2.toArray i
    have S := zip_sep2 (N := n) (fp1 := [a]) (fp2 := [b]) (fun c h => by rw [List.mem_singleton.mp h]; exact ha) (fun c h => by rw [List.mem_singleton.mp h]; exact hb)
    refine wpAny_pyNext_zipD2_item S D1 D2 m1 m2 m3 ⟨Nat.le_refl _, m4, p.isList⟩ ⟨Nat.le_refl _, m5, p2⟩ (by rw [List.size_toArray]; omega) (by rw [List.size_toArray]; omega) fun q1 q2 h' tk e1 e2 g1 g2 g3 g4 g5 g6 up => ?_
    obtain rfl : u = q1 := by rw [List.getElem?_toArray] at e1; exact Option.some.inj (hu.symm.trans e1)
    obtain rfl : v = q2 := by rw [List.getElem?_toArray] at e2; exact Option.some.inj (hv.symm.trans e2)
    refine ⟨_, rfl, wpAny_letOwnedTupleGo_zip (s := { s with heap := h', toks := tk }) g1 fun h2 g7 sb => ?_⟩
    have big : ∀ c ∈ [n + 4, n + 2, n + 3, n, n + 1], (show Nat from c) < s.heap.objs.size := fun c hc => by
      obtain ⟨o, ho, _⟩ := zM_obj m0 c hc
      exact Heap.lt_size ho
    have g8 := (sb.2 _ (Nat.ne_of_gt hsz)).trans g5
    have new : ObjOk X.prog X.w (upd H s.heap.objs.size (.tup [y, z])) h2 s.heap.objs.size (.tup [y, z]) := ⟨by show 2 ≤ sizeLine; decide, _, .cons ru (.cons rw2 .nil), ⟨_, g8, rfl, _, rfl⟩⟩
    have I1 := I.turnedNew (t' := tk) (ch := [n + 4, n + 2, n + 3, n, n + 1]) (fun c o hb2 q => (sb.2 c (fun y => hb2 (by simp [y]))).trans (up c o (fun y => hb2 (by simp [y])) (fun y => hb2 (by simp [y])) (fun y => hb2 (by simp [y])) (fun y => hb2 (by simp [y])) q)) hf (Nat.le_refl _) new
    refine ⟨.ref s.heap.objs.size, _, I1, rfl, ⟨_, y, z, ⟨rfl, I.hok.fresh (Nat.le_refl _), rfl⟩, fun l hl => by rw [I.list_inj hl hus]; exact hy, fun l hl => by rw [I.tuple_inj hl hvs]; exact hz⟩, ⟨g7, ?_, ⟨_, _, (sb.2 _ S.TOz).trans g2⟩, g3.2.1.at fun o q => (sb.2 _ S.zi1.symm).trans q, g4.2.1.at fun o q => (sb.2 _ S.zi2.symm).trans q⟩, fun c hc2 => ?_⟩
    · exact (sb.2 _ S.TIz).trans (up _ _ S.TIz S.TITO S.TIi1 S.TIi2 m2)
    · rw [upd_ne (Nat.ne_of_lt (big c hc2))]
      exact (hf c hc2).1
  done := fun X hP hw hK hc i ps s σ H E I hf m hg => by
    cases hP; cases hw; cases hK
    obtain ⟨us, vs, ⟨hus, hvs⟩, hle⟩ := hg
    obtain ⟨its, rv, p, _⟩ := I.list hus
    obtain ⟨its2, rv2, p2, _⟩ := I.tuple hvs
    obtain ⟨m1, m2, ⟨x0, y0, m3⟩, m4, m5⟩ := m
    have l1 := rv.length
    have l2 := rv2.length
    have D1 := drawsL (prog := X.prog) (w := X.w) (A := X.A.in1) (I.ok.hd hc) (Nat.ne_of_lt ha) its.toArray i
    have D2 := drawsT (prog := X.prog) (w := X.w) (A := X.A.in1) (I.ok.hd hc) (n := n + 1) (Nat.ne_of_lt (Nat.lt_succ_of_lt hb)) its2.toArray i
    have S := zip_sep2 (N := n) (fp1 := [a]) (fp2 := [b]) (fun c h => by rw [List.mem_singleton.mp h]; exact ha) (fun c h => by rw [List.mem_singleton.mp h]; exact hb)
    refine wpAny_pyNext_zipD2_end S D1 D2 m1 m2 m3 ⟨Nat.le_refl _, m4, p.isList⟩ ⟨Nat.le_refl _, m5, p2⟩ (Nat.le_max_right ..) (Nat.le_max_right ..) (by rw [List.size_toArray, List.size_toArray]; omega) fun h' tk up => ⟨rfl, ?_⟩
    exact I.turnedL (t' := tk) (ch := [n + 4, n + 2, n + 3, n, n + 1]) (fun c o hb2 q => up c o (fun y => hb2 (by simp [y])) (fun y => hb2 (by simp [y])) (fun y => hb2 (by simp [y])) (fun y => hb2 (by simp [y])) q) hf
  self := fun A i s Q E m h => wpAny_pyIter_zip m.1 h
theorem pi_zipM {X : Cx} {e e2 : Expr} {p pos tpos : Pos} {elts : List Expr} {kk : Nat} (hg : Gl X "zip") (hm : X.mg "zip" = none) (hs : starEach [e, e2] X.env = (false, eval e X.env) :: starEach [e2] X.env := by rfl) (hpl : (backTo pos (starEach [e2] X.env)).any (·.1) = false := by rfl) :
    PI X (.Tuple elts kk tpos) (.Call (.Name "zip" p) [e, e2] [] pos) (fun σ H R => zA X [e, e2] σ H fun vs H1 => ∃ a b us ws, vs = [.ref a, .ref b] ∧ SqL X.K H1 a us ∧ SqT X.K H1 b ws ∧ R (ItzM X.K a b) H1) := ⟨fun ps s σ H R I h => by
  refine PyProof.Rows.Call_ (ld_blt I hg hm PyProof.Rows.boot_zip (PyProof.Rows.callWith_type1 (thn ((zA_ok [e, e2]).run pos ps s σ H _ I h) fun us s1 ⟨vs, H1, I1, r1, a, b, ys, zs, ex, hq1, hq2, q⟩ => ?_) hs hpl))
  subst ex
  cases r1 with
  | cons ra rr =>
    cases rr with
    | cons rb rr =>
      cases rr
      cases ra
      cases rb
      obtain ⟨its, rv, p1, _⟩ := I1.list hq1
      obtain ⟨its2, rv2, p2, _⟩ := I1.tuple hq2
      obtain ⟨ob, hob, _⟩ := id p2
      refine zip_begins2 (begins_list a its.toArray) (begins_tuple b its2.toArray) p1.isList p2 fun h' g1 g2 g3 g4 g5 g6 up => wpAny_pyIter_zip g1 ?_
      have I2 : Inv X ps σ H1 { s1 with heap := h' } := I1.kept (t' := s1.toks) up
      refine ⟨_, _, _, _, H1, rfl, I2, turn_zipM (n := s1.heap.objs.size) p1.lt (Heap.lt_size hob), ⟨g1, g2, ⟨_, _, g3⟩, ⟨_, g4, rfl, rfl⟩, ⟨_, g5, rfl, rfl⟩⟩, fun c hc => ?_, q⟩
      have hle : s1.heap.objs.size ≤ c := by
        simp only [List.mem_cons, List.not_mem_nil, or_false] at hc
        rcases hc with rfl | rfl | rfl | rfl | rfl
        · exact Nat.le_add_right _ 4
        · exact Nat.le_add_right _ 2
        · exact Nat.le_add_right _ 3
        · exact Nat.le_refl _
        · exact Nat.le_add_right _ 1
      exact I1.fpOk hle (I1.hok.fresh hle)⟩
theorem i_zipM {X : Cx} {P : Program} {w : World} {K : PySem.W.Frag} {mg : Str → Option Value} {base : Heap} {N : List Str} {sc : Scope} {k : Nat} {σ : L2.St} {H : Hp} {R : It → Hp → Prop} {a b : Expr} {p pos tpos : Pos} {elts : List Expr} {kk : Nat} (C : Ctx X P w K mg base N sc k) (hm : mg "zip" = none)
    (h : zE X a σ H fun x H1 => zE X b σ H1 fun y H2 => ∃ i j xs ys, x = .ref i ∧ y = .ref j ∧ SqL X.K H2 i xs ∧ SqT X.K H2 j ys ∧ R (ItzM X.K i j) H2) (hg : gloB sc "zip" = true := by decide +kernel)
    (he : starEach [a, b] X.env = (false, eval a X.env) :: starEach [b] X.env := by rfl) (he2 : starEach [b] X.env = (false, eval b X.env) :: starEach [] X.env := by rfl) (hpl : (backTo pos (starEach [b] X.env)).any (·.1) = false := by rfl) : zI X (.Tuple elts kk tpos) (.Call (.Name "zip" p) [a, b] [] pos) σ H R :=
  zI_of (pi_zipM (C.gl hg) (by rw [C.mgl]; exact hm) he hpl) (a_cons (zE_mono h fun v H1 h1 => a_cons (zE_mono h1 fun u H2 ⟨i, j, xs, ys, e1, e2, h2, h3, h4⟩ => a_nil ⟨i, j, xs, ys, by rw [e1, e2], h2, h3, h4⟩) he2) he)
end Z

/-! y = [.. for ..] that changes what was there; y = [l.pop() for k in range(n)] -/
namespace Z
open PySem L2
variable {X : Cx} {P : Program} {w : World} {K : PySem.W.Frag} {mg : Str → Option Value} {base : Heap} {N : List Str} {sc : Scope} {k : Nat} {σ : L2.St} {H : Hp} {Q : VK} {tg : Expr} {nx bk ct : L2.St → Hp → Prop} {rt : VK}
/-- y = [elt for tg in it if ..], y a local, where Acc alone tells what stands -/
theorem s_lcW {i : Nat} {y : Str} {py : Pos} {elt it : Expr} {ifs : List Expr} {scope : Scope} {own : List (Str × Nat)} {pos spos : Pos} (C : Ctx X P w K mg base N sc k) (hb : blkC N sc scope own = true) (hy : N[i]? = some y) (hyl : lclB sc y = true)
    (hk : sc.kind = .function) (hl : (py.line == pos.line && spos.line == spos.line) = true) (ha : (scope.names.any fun (n, k) => n == y && (k == .local || k == .cell)) = false)
    (h : zI X tg it σ H fun J H1 => ∃ n S Y Acc, Walk J n S Y ∧ CompW X tg elt ifs scope (own.map (·.2)) σ H1 n S Y Acc ∧ ∀ D' ys H', H1 D' = none → H' D' = some (.lst ys) → Acc D' n ys H' → nx (σ.set i (some (.ref D'))) H')
    (hs : ∀ x, foldedSetIterable it X.env x = pure x := by intro _; rfl) : zS X (.Assign [.Name y py] (.ListComp elt [⟨tg, it, ifs, 0⟩] scope pos) spos) nx rt bk ct σ H := by
  have hsw : swapsWith (.ListComp elt [⟨tg, it, ifs, 0⟩] scope pos) (some (.Name y py)) spos.line X.env = pure true := sw_true (by rw [C.scp]; exact hk) (C.lcl hyl) (by simpa using hl) ha
  refine zS_of (ps_setLc (own := own) (i := i) C.calm (by rw [C.nms]; exact C.nd) (by rw [C.nms]; exact hy) (C.lcl hyl) hsw (zI_ok tg it) (by rw [C.nms, C.scp]; exact blkOk_by hb) (g := zGb X scope tg) (tt := zTb X scope ifs) (te := zEb X scope elt)
    (fun s H0 c0 cl fp => ⟨fun ps s' σ H v u Q I r q => (zG_ok tg).run ps s' σ H v u Q I r (q s H0 c0 cl fp)⟩) (fun s H0 c0 cl fp => ⟨fun ps s' σ H Q I q => (zTs_ok ifs).run ps s' σ H Q I (q s H0 c0 cl fp)⟩)
    (fun s H0 c0 cl fp => ⟨fun ps s' σ H Q I q => (zE_ok elt).run ps s' σ H Q I (q s H0 c0 cl fp)⟩) hs) ?_
  show zI X tg it σ H _
  refine zI_mono h fun J H1 ⟨n, S, Y, Acc, W, L, hd⟩ D0 hD => lc_runW (Qd := fun x H1 => gName i x σ H1 nx) W L hd D0 hD
/-- y = [x.pop() for k in range(m)] -/
theorem s_pops {x y u : Str} {i j d : Nat} {px py pu ap cp : Pos} {it : Expr} {scope : Scope} {own : List (Str × Nat)} {pos spos : Pos} {l : Addr} {xs : List V} {m : Nat} (C : Ctx X P w K mg base N sc k) (hb : blkC N sc scope own = true) (hy : N[d]? = some u) (hyl : lclB sc u = true)
    (hk : sc.kind = .function) (hln : (pu.line == pos.line && spos.line == spos.line) = true) (hno : (scope.names.any fun (n, k) => n == u && (k == .local || k == .cell)) = false)
    (hit : zI X (.Name y py) it σ H fun J H1 => H1 = H ∧ ∃ S, Walk J m S (fun _ _ _ => True) ∧ (∀ H', S H') ∧ ∀ i H0 x H', J.yld i H0 x H' → H' = H0)
    (hl : H l = some (.lst xs)) (hm : m ≤ xs.length) (hm2 : m ≤ 100000) (h1 : N[j]? = some y) (h2 : lclB (relS scope sc) y = true) (hw : ∀ v, wipe ((wipe σ (own.map (·.2))).set j (some v)) (own.map (·.2)) = wipe σ (own.map (·.2)))
    (nl : ∀ X1, Ctx X1 P w K mg base N (relS scope sc) k → Nm X1 x i) (hs : ∀ v, ((wipe σ (own.map (·.2))).set j (some v))[i]? = some (some (.ref l)))
    (h : ∀ D H', H D = none → H' D = some (.lst (xs.reverse.take m)) → H' l = some (.lst (xs.take (xs.length - m))) → (∀ b o, b ≠ l → H b = some o → H' b = some o) → nx (σ.set d (some (.ref D))) H')
    (hd : (x == ("__debug__" : Str)) = false := by decide) (hcd : (x == ("__classdict__" : Str)) = false := by decide) (hfs : ∀ x, foldedSetIterable it X.env x = pure x := by intro _; rfl)
    (hp : ∀ X2 : Cx, PE X2 (.Call (.Attribute (.Name x px) "pop" ap) [] [] cp) (tBM0 X2.K "list" rPop (zE X2 (.Name x px))) := by intro X2; exact pe_bm0 PySem.F.plainAttrs_list PySem.F.slot_list_pop PySem.F.type_list_pop mt_pop (zE_ok _)) :
    zS X (.Assign [.Name u pu] (.ListComp (.Call (.Attribute (.Name x px) "pop" ap) [] [] cp) [⟨.Name y py, it, [], 0⟩] scope pos) spos) nx rt bk ct σ H := by
  refine s_lcW C hb hy hyl hk hln hno (zI_mono hit fun J H1 ⟨e1, S, W, hS, hY⟩ => ?_) hfs
  subst e1
  refine ⟨m, S, _, fun D t ys H' => D ≠ l ∧ t ≤ m ∧ ys = xs.reverse.take t ∧ H' l = some (.lst (xs.take (xs.length - t))) ∧ ∀ b o, b ≠ l → H1 b = some o → H' b = some o, W, ?_, fun D ys H' hD hD2 ⟨a1, a2, a3, a4, a5⟩ => h D H' hD (by rw [hD2, a3]) a4 a5⟩
  refine ⟨hm2, fun D hD => ⟨fun e => (by rw [e, hl] at hD; cases hD), Nat.zero_le _, by rw [List.take_zero], ?_, fun b o hb hb2 => ?_⟩, fun _ _ _ H' _ => hS H', fun D t ys H' ⟨_, _, a3, _⟩ => by rw [a3, List.length_take]; omega, ?_⟩
  · rw [upd_ne (fun e => (by rw [← e, hl] at hD; cases hD)), hl, Nat.sub_zero, List.take_length]
  · rw [upd_ne (fun e => (by rw [e, hD] at hb2; cases hb2))]; exact hb2
  · intro D t v ys H0 H' ht hD hD0 ⟨a1, a2, a3, a4, a5⟩ e1 _
    refine gb_intro C fun X1 C1 => g_name (C1.ns h1 (by unfold locB; unfold lclB at h2; rw [h2]; rfl) (.inr h2)) ⟨hw v, fun _ _ _ _ _ => ts_nil (if_pos rfl ▸ eb_intro C fun X2 C2 => ?_)⟩
    have hlt : xs.length - t - 1 < xs.length := by omega
    have hsp : xs.take (xs.length - t) = xs.take (xs.length - (t + 1)) ++ [xs[xs.length - t - 1]] := by
      have := List.take_append_getElem hlt
      rw [show xs.length - t - 1 + 1 = xs.length - t by omega] at this
      rw [← this, show xs.length - (t + 1) = xs.length - t - 1 by omega]
    refine e_pop (hp := hp X2) (e_name (nl X2 C2) (hs v) ⟨l, xs.take (xs.length - (t + 1)), xs[xs.length - t - 1], rfl, by rw [e1 _ _ a4, hsp], fun H3 x3 hl3 => ⟨x3 _ _ a1 (e1 _ _ hD0), a1, by omega, ?_, ?_, fun b o hb hb2 => ?_⟩⟩ hd hcd)
    · rw [a3]
      have ht2 : t < xs.reverse.length := by rw [List.length_reverse]; omega
      rw [← List.take_append_getElem ht2, List.getElem_reverse]
      congr 3
      omega
    · rw [upd_ne (Ne.symm a1), hl3]
    · have hbD : b ≠ D := fun e => by rw [e, hD] at hb2; cases hb2
      rw [upd_ne hbD]
      exact x3 _ _ hb (e1 _ _ (a5 _ _ hb hb2))
end Z

/-! a text times a number; int of a truth -/
namespace Z
open PySem L2
def repS (z : Str) (n : Nat) : Str := ⟨((List.replicate n z.cps.toList).flatten).toArray⟩
theorem repS_tl (z : Str) (n : Nat) : (repS z n).cps.toList = (List.replicate n z.cps.toList).flatten := rfl
theorem repS_one (z : Str) : repS z 1 = z := by
  unfold repS
  rw [List.replicate_one, List.flatten_singleton]
theorem repS_nil {z : Str} (h : z.length = 0) (n : Nat) : repS z n = z := by
  have e : z.cps = #[] := Array.eq_empty_of_size_eq_zero h
  unfold repS
  cases z with
  | mk c =>
    cases e
    congr
    induction n with
    | zero => rfl
    | succ n ih => rw [List.replicate_succ, List.flatten_cons]; exact ih
theorem foldl_app {α : Type} (c : Array α) : ∀ (n : Nat) (a : Array α), (List.replicate n c).foldl (· ++ ·) a = (a.toList ++ (List.replicate n c.toList).flatten).toArray
  | 0, a => by simp
  | n + 1, a => by
    rw [List.replicate_succ, List.foldl_cons, foldl_app c n, List.replicate_succ, List.flatten_cons]
    simp
theorem op_repS {X : Cx} : OpR X (binaryOp .Mult) (fun x y H Q => ∃ (z : Str) (n : Nat), x = .str z ∧ y = .int (n : Int) ∧ n < 2 ^ 32 ∧ z.length * n ≤ sizeLine ∧ Q (.str (repS z n)) H) := by
  intro pins s σ H x y v u Q I rx ry ⟨z, n, ex, ey, hn, hz, q⟩
  subst ex ey
  obtain ⟨t, rfl⟩ := rx
  obtain ⟨t2, rfl⟩ := ry
  have hlong : Builtin.Str.tooLong (z.length * n) = false := by
    unfold Builtin.Str.tooLong
    exact decide_eq_false (by omega)
  refine PySem.P.mul_str (by rw [decide_eq_false (by omega), decide_eq_false (by omega)]; rfl) (fun h1 _ => ?_) (fun _ _ => by rw [Int.toNat_natCast]; exact hlong) ?_
  · have h3 : (0 : Int) < n := by omega
    have h4 : (z.length : Int) ≤ (2 ^ 63 - 1) / n := (Int.le_ediv_iff_mul_le h3).mpr (by
      have h5 : (((z.length * n : Nat)) : Int) ≤ ((sizeLine : Nat) : Int) := Int.ofNat_le.mpr hz
      rw [Int.natCast_mul] at h5
      exact Int.le_trans h5 (by decide))
    omega
  · by_cases h0 : n = 0
    · subst h0
      rw [if_pos (by decide)]
      exact ⟨by decide, .str (repS z 0), H, I.tok _, ⟨_, rfl⟩, q⟩
    · rw [if_neg (show ¬ (n : Int) < 1 by omega)]
      by_cases h1 : n = 1 ∨ z.length = 0
      · have hb : ((n : Int) == 1 || z.length == 0) = true := by
          rcases h1 with h1 | h1
          · subst h1; rfl
          · rw [h1]; simp
        rw [if_pos hb]
        have e : repS z n = z := by
          rcases h1 with h1 | h1
          · subst h1; exact repS_one z
          · exact repS_nil h1 n
        rw [e] at q
        exact ⟨.str z, H, I, ⟨_, rfl⟩, q⟩
      · have hb : ¬ ((n : Int) == 1 || z.length == 0) = true := fun h => h1 (by
          rcases Bool.or_eq_true_iff.mp h with h | h
          · left
            have := eq_of_beq h
            omega
          · exact .inr (eq_of_beq h))
        rw [if_neg hb]
        have e : (⟨(List.replicate (n : Int).toNat z.cps).foldl (· ++ ·) #[]⟩ : Str) = repS z n := by
          rw [Int.toNat_natCast, foldl_app]
          rfl
        rw [e]
        refine ⟨?_, .str (repS z n), H, I.tok _, ⟨_, rfl⟩, q⟩
        show (repS z n).cps.size ≤ sizeLine
        have : (repS z n).cps.size = z.length * n := by
          show ((List.replicate n z.cps.toList).flatten).toArray.size = _
          rw [List.size_toArray, List.length_flatten, List.map_replicate, List.sum_replicate_nat, Array.length_toList, Nat.mul_comm]
          rfl
        omega
theorem o_repS {X : Cx} {H : Hp} {Q : VK} {z : Str} {n : Nat} (hn : n < 2 ^ 32) (hz : z.length * n ≤ sizeLine) (h : Q (.str (repS z n)) H) : zO X (binaryOp .Mult) (.str z) (.int (n : Int)) H Q := zO_of op_repS ⟨z, n, rfl, rfl, hn, hz, h⟩
theorem c_intB {X : Cx} {H : Hp} {Q : VK} {b : Bool} (h : Q (.int (if b then 1 else 0)) H) : zC X (.type "int") [.bl b] H Q := zC_of call_int1 (.inr ⟨b, rfl, h⟩)
end Z

/-! an own object made from things by place; isinstance of a class above -/
namespace Z
open PySem L2
variable {X : Cx} {P : Program} {w : World} {K : PySem.W.Frag} {mg : Str → Option Value} {base : Heap} {N : List Str} {sc : Scope} {k : Nat} {σ : L2.St} {H : Hp} {Q : VK}
structure CalN (P : Program) (w : World) (K : PySem.W.Frag) (mg : Str → Option Value) (base : Heap) (CX : CXT) (x : Str) (CA : Addr) (j : Nat) (sp : Sp) : Prop where
  ex : ∃ (f : Addr) (fd : FuncData) (ps : List Str), Mk K CA f ∧ FnOk P w K mg base CX j f fd ps sp ∧ mg x = some (.ref CA) ∧ Binds K fd ps []
theorem e_makeN {CX : CXT} {x : Str} {CA : Addr} {j : Nat} {sp : Sp} {E : XK} {e : Expr} {es : List Expr} {p pos : Pos} (C : Ctx X P w K mg base N sc k) (c : CalN P w K mg base CX x CA j sp) (hj : j + 1 ≤ k) (hx : Passes CX X E)
    (h : zA X (e :: es) σ H fun vs H1 => ∀ a dx, H1 a = none → H1 dx = none → dx ≠ a → sp (.ref a :: (vs ++ [])) (upd (upd H1 dx (.own a)) a (.ins CA dx [])) (fun u H2 => u = .non ∧ Q (.ref a) H2) E)
    (hg : gloB sc x = true := by decide +kernel) (hdb : (x == ("__debug__" : Str)) = false := by decide) (he : starEach (e :: es) X.env = (false, eval e X.env) :: starEach es X.env := by rfl) (hpl : (backTo pos (starEach es X.env)).any (·.1) = false := by rfl) :
    zE X (.Call (.Name x p) (e :: es) [] pos) σ H Q := by
  obtain ⟨f, fd, ps, M, F, h1, hb⟩ := c.ex
  have hgl := C.gl hg
  obtain ⟨rfl, rfl, rfl, rfl, rfl, _, _, _, hr, _, _⟩ := C
  exact zE_of (pe_make M F (hr.mono hj) hgl h1 hb .nil hx (zA_ok _) hdb he hpl) h
/-- isinstance(a, x), x a class above a's -/
theorem e_isiU {x : Str} {CA CB : Addr} {a : Expr} {p p2 pos : Pos} (C : Ctx X P w K mg base N sc k) (hm : mg "isinstance" = none) (g : mg x = some (.ref CB)) (ic : C8.InsC K CA) (up : PySem.W.kitOne K (.ref CA) (.ref CB) = some true) (h : zE X a σ H fun v H1 => ∃ b dx fs, v = .ref b ∧ H1 b = some (.ins CA dx fs) ∧ Q (.bl true) H1)
    (hg : gloB sc "isinstance" = true := by decide +kernel) (hg2 : gloB sc x = true := by decide +kernel) (hd : (x == ("__debug__" : Str)) = false := by decide)
    (he : starEach [a, .Name x p2] X.env = (false, eval a X.env) :: starEach [.Name x p2] X.env := by rfl) (he2 : starEach [.Name x p2] X.env = (false, eval (.Name x p2) X.env) :: starEach [] X.env := by rfl) (hpl : (backTo pos (starEach [.Name x p2] X.env)).any (·.1) = false := by rfl) :
    zE X (.Call (.Name "isinstance" p) [a, .Name x p2] [] pos) σ H Q := by
  refine e_callB (C.gl hg) (by rw [C.mgl]; exact hm) (by decide +kernel : bootBuiltins "isinstance" = some (.builtin "isinstance")) (a_cons (zE_mono h fun v H1 ⟨b, dx, fs, h1, h2, h3⟩ => a_cons (e_gref C g (a_nil ?_) hg2 hd) he2) he) (he := he) (hpl := hpl)
  subst h1
  unfold zC
  intro pins s σ' us I r
  obtain ⟨u, w', rfl, ru, rw'⟩ := vals2 r
  cases rw'
  have ic2 : C8.InsC X.K CA := by rw [C.frg]; exact ic
  exact isinst_ok I ru (TyOf.ins h2 ic2.cl ic2.ha ic2.hn ic2.htk ic2.hm) (by rw [C.frg]; exact up) fun tk => ⟨.bl true, _, I.tok _, rfl, h3⟩
/-- str(a), a a text -/
theorem e_strS {a : Expr} {p pos : Pos} (C : Ctx X P w K mg base N sc k) (hm : mg "str" = none) (h : zE X a σ H fun v H1 => ∃ z : Str, v = .str z ∧ Q (.str z) H1) (hg : gloB sc "str" = true := by decide +kernel) (he : starEach [a] X.env = (false, eval a X.env) :: starEach [] X.env := by rfl) : zE X (.Call (.Name "str" p) [a] [] pos) σ H Q :=
  e_callT (C.gl hg) (by rw [C.mgl]; exact hm) (by decide +kernel) (a_cons (zE_mono h fun v H1 ⟨z, e, h2⟩ => a_nil (zC_of SkE.call_str_str ⟨z, by rw [e], h2⟩)) he) (he := he)
end Z

/-! {(a, b): c for ..}: a dict made by a comprehension, its keys tuples -/
namespace Z
open PySem PySem.Spec PyProof.Rows L2
section
variable {X : Cx} {ps : List (Addr × Obj)} {σ : L2.St} {H : Hp} {s : Shared}
theorem dT_set {E : Value → Shared → Prop} {D b : Addr} {kvs : List (List Key × V)} {q : List Key} {v : V} {u : Value} {Q : Unit → Shared → Prop} (hu : X.A.units + 1 < cLine) (I : L2.Inv X ps σ H s) (hD : H D = some (.dT kvs)) (hz : kvs.length < sizeLine) (hb : H b = some (.tup (q.map kV))) (rv : RelV v u)
    (h : ∀ t, L2.Inv X ps σ (upd H D (.dT (putK kvs q v))) t → Q () t) : wpAny (model X.prog X.w) X.A (dictSet D (.ref b) u) Q E s := by
  obtain ⟨_, hsys, xs, kt, dh⟩ := dt_of I.hok hD
  have hxs : xs.length ≤ sizeLine := by
    rw [← Paired.length kt]
    omega
  have hput := length_putK kvs q v
  refine wpAny_dictSet_heap (hsz := hxs) (show X.A.units < cLine by omega) (key_of I.hok hb) dh fun h2 dh2 same => h _ ?_
  obtain ⟨ob, es, ep, g1, g2, g3, g4, _, g5⟩ := dh2
  have kt2 := (kt.put q hb rv).keeps (H' := upd H D (.dT (putK kvs q v))) fun d ys hd => by
    rw [upd_ne (ne_of hd hD (fun z => nomatch z))]
    exact hd
  exact d_write I (by rw [hD]; exact trivial) same ⟨ob, g1⟩ ⟨by omega, hsys, _, kt2, ob, es, ep, g1, g2, g3, g4, g5⟩
/-- the turns of such a comprehension -/
def tDt (wi : TI) (g : TG) (tt : TT) (tk tv : TE) (vs : List Nat) : TE := fun σ H Q => wi σ H fun J H1 => ∀ D, H1 D = none → ∃ W : Nat → Nat → Hp → Prop, (∃ m, W 0 m (upd H1 D (.dT []))) ∧ ∀ i m H, W i m H →
  (J.stop i H ∧ Q (.ref D) H) ∨ (J.go i H ∧ ∃ Nx : Hp → Prop, (∀ H', Nx H' → ∃ m', m' < m ∧ W (i + 1) m' H') ∧ ∀ x H', J.yld i H x H' → g x (wipe σ vs) H' fun σ2 H2 => wipe σ2 vs = wipe σ vs ∧ tt σ2 H2 fun b H3 =>
    if b = true then tk σ2 H3 fun y H4 => tv σ2 H4 fun z H5 => ∃ d kvs q, y = .ref d ∧ H5 d = some (.tup (q.map kV)) ∧ H5 D = some (.dT kvs) ∧ kvs.length < sizeLine ∧ Nx (upd H5 D (.dT (putK kvs q z))) else Nx H3)
/-- what is known of the block's own context, whatever it starts from -/
theorem blk_fp {s0 : Shared} {H0 : Hp} {scope : Scope} {ce : Env} {fp : List Addr} {σ' : L2.St} {H' : Hp} {s' : Shared} (I : L2.Inv (X.blk s0 H0 scope ce fp) [] σ' H' s') (n : ∀ b ∈ fp, H' b = none) : ∀ b ∈ fp, FpOk (X.blk s0 H0 scope ce fp) [] H' b := fun b hb =>
  ⟨n b hb, (I.ok.exf b hb).1, I.ok.exfs b hb, .inl hb, fun x c e => (I.ok.exf b hb).2 x c e, fun p hp => by simp at hp⟩
theorem dcT_core {Q : VK} {kx vx tg iter : Expr} {ifs : List Expr} {scope : Scope} {own : List (Str × Nat)} {pos pos' : Pos} {wi : TI} {g : TG} {tt : TT} {tk tv : TE} {use : Option (Value → Sem Unit)} {Qf : Value → Shared → Prop}
    (hu : X.A.units + 1 < cLine) (calm : X.calm = true) (nd : X.N.Nodup) (I : L2.Inv X ps σ H s) (pi : PI X tg iter wi) (bo : BlkOk X.N X.env.scope scope own)
    (pg : ∀ s H C cl fp, PG (X.blk s H scope (compEnvC scope cl C X.env) fp) tg g) (pt : ∀ s H C cl fp, PTs (X.blk s H scope (compEnvC scope cl C X.env) fp) ifs tt)
    (pk : ∀ s H C cl fp, PE (X.blk s H scope (compEnvC scope cl C X.env) fp) kx tk) (pv : ∀ s H C cl fp, PE (X.blk s H scope (compEnvC scope cl C X.env) fp) vx tv) (fs : ∀ x, foldedSetIterable iter X.env x = pure x) (h : tDt wi g tt tk tv (own.map (·.2)) σ H Q)
    (fin : ∀ D C s' m H', L2.Inv X ps σ H' s' → Q (.ref D) H' → s'.heap.Ns C m → FpOk X ps H' C → compPost (model X.prog X.w) X.A X.xe use Qf (.ref D) C (.ok .next) s') :
    wpAny (model X.prog X.w) X.A (comprehension (.DictComp kx vx [⟨tg, iter, ifs, 0⟩] scope pos) scope X.env pos' newDict false (eval iter X.env) use) Qf X.xe s := by
  have clo : ∀ y ∈ scope.names, y.2 = .free → ∃ c, X.env.cells.lookup y.1 = some c := fun y hy e => (bo.free y hy e).elim (fun k => I.ok.has _ (.inl k)) (fun k => I.ok.has _ (.inr k))
  refine wpAny_comprehension_free (use := use) rfl fs (closure_ok clo) bo.kind (fun y hy e => by rw [bo.uniq y hy, e]) (thn (pi.run ps s σ H _ I h) fun xv sa ha => thn ha fun itv sb hb => ?_)
  obtain ⟨it, fp, tn, J, Hb, rfl, Ib, T, tb, fb, q⟩ := hb
  refine wpAny_newObj_type (newEnv_comp ?_)
  obtain ⟨D, eD⟩ : ∃ D, sb.heap.objs.size = D := ⟨_, rfl⟩
  have nD : Hb D = none := Ib.hok.fresh (by rw [eD]; exact Nat.le_refl _)
  obtain ⟨W, ⟨m0, w0⟩, step⟩ := q D nD
  obtain ⟨sd, esd⟩ : ∃ sd : Shared, { sb with heap := sb.heap.push { cls := .type "dict", data := .dict #[] } } = sd := ⟨_, rfl⟩
  have hsd : sd.heap = sb.heap.push { cls := .type "dict", data := .dict #[] } := by rw [← esd]
  obtain ⟨Hd, eHd⟩ : ∃ Hd, upd Hb D (.dT []) = Hd := ⟨_, rfl⟩
  have Id : L2.Inv X ps σ Hd sd := by
    rw [← esd, ← eHd]
    have := Ib.laid (t' := sb.toks) (fun b o e => Heap.get?_push_of_some _ e) (Nat.le_of_eq eD) (by rw [← eD]; exact dt_empty sb.heap Ib.big)
    exact this
  rw [eHd] at w0
  have low : ∀ b ∈ fp, b < sb.heap.objs.size := fun b hb => (T.obj _ _ tb b hb).elim fun o ho => Heap.lt_size ho.1
  have fd : ∀ b ∈ fp, FpOk X ps Hd b ∧ b < sd.heap.objs.size := fun b hb => by
    have hlt := low b hb
    have hne : b ≠ D := fun e => Nat.lt_irrefl _ (by rw [e, ← eD] at hlt; exact hlt)
    refine ⟨⟨?_, (fb b hb).2⟩, by rw [hsd, Heap.size_push]; exact Nat.lt_succ_of_lt hlt⟩
    rw [← eHd, upd_ne hne]
    exact (fb b hb).1
  have td : tn 0 sd.heap := T.keep _ _ _ tb fun b _ o e => by
    rw [hsd]
    exact Heap.get?_push_of_some _ e
  obtain ⟨C, eC⟩ : ∃ C, sd.heap.objs.size = C := ⟨_, rfl⟩
  obtain ⟨cl, ecl⟩ : ∃ cl, cellsFrom (C + 1) scope.names (cloFrom X.env.cells scope.names []) = cl := ⟨_, rfl⟩
  obtain ⟨ce, ece⟩ : ∃ ce, compEnvC scope cl C X.env = ce := ⟨_, rfl⟩
  obtain ⟨se, ese⟩ : ∃ se : Shared, { sd with heap := pushCells (sd.heap.push { cls := .type "dict", data := .dict #[] }) scope.names } = se := ⟨_, rfl⟩
  have Ie : L2.Inv (X.blk sd Hd scope ce fp) [] (wipe σ (own.map (·.2))) Hd se := by
    have := block_start Id bo nd fd
    rw [eC, ecl, ece, ese] at this
    exact this
  have te : tn 0 se.heap := T.keep _ _ _ td fun b _ o e => by
    rw [← ese]
    exact pushCells_keeps _ _ _ _ (Heap.get?_push_of_some _ e)
  have pg := pg sd Hd C cl fp
  have pt := pt sd Hd C cl fp
  have pk := pk sd Hd C cl fp
  have pv := pv sd Hd C cl fp
  rw [ece] at pg pt pk pv
  have run : codeAny (model X.prog X.w) X.A (.compLoop (.DictComp kx vx [⟨tg, iter, ifs, 0⟩] scope pos) 0 (.ref it) (.ref D) ce) (compPost (model X.prog X.w) X.A X.xe use Qf (.ref D) C) se := by
    refine compLoop_anyD (fun n t => ∃ i G, L2.Inv (X.blk sd Hd scope ce fp) [] (wipe σ (own.map (·.2))) G t ∧ tn i t.heap ∧ (∀ b ∈ fp, G b = none) ∧ W i n G) ?_ m0 ⟨0, Hd, Ie, te, fun b hb => (fd b hb).1.1, w0⟩
    rintro n t ⟨i, G, It, tt0, nG, wG⟩
    rcases step i n G wG with ⟨hstop, hQ⟩ | ⟨hgo, Nx, less, turn⟩
    · refine thnF (T.done (X.blk sd Hd scope ce fp) rfl rfl rfl calm i [] t _ G (fun _ _ => False) It (blk_fp It nG) tt0 hstop) fun r t2 ⟨er, I2⟩ => ?_
      subst er
      have back : L2.Inv X ps σ G t2 := Id.call' (ch := fp) I2.os I2.base I2.hok I2.bare fun b hb => by
        obtain ⟨⟨_, f1, f2, f3, f4⟩, _⟩ := fd b hb
        exact ⟨f3, f1, f4.1, f4.2⟩
      have lc : ce.locals = C := by rw [← ece]; rfl
      have nC : G C = none := by
        have z : G ce.locals = none := I2.free
        rw [lc] at z
        exact z
      obtain ⟨mm, hns, _⟩ := I2.loc
      have hns : t2.heap.Ns ce.locals mm := hns
      rw [lc] at hns
      exact fin D C t2 mm G back hQ hns (Id.fpOk (Nat.le_of_eq eC) nC)
    · refine thnF (T.item (X.blk sd Hd scope ce fp) rfl rfl rfl calm i [] t _ G (fun _ _ => False) It (blk_fp It nG) tt0 hgo) fun r t2 ⟨u, er, hit⟩ => ?_
      subst er
      refine thnF hit fun _ t3 ⟨x, G3, I3, r3, y3, tn3, n3⟩ => ?_
      have I3' := I3.pinned (blk_fp I3 n3) (T.obj _ _ tn3)
      refine thnF (pg.run _ t3 _ G3 x u _ I3' r3 (turn x G3 y3)) fun _ t4 ⟨σ4, G4, I4, wp4, q4⟩ => ?_
      refine thnF (pt.run _ t4 σ4 G4 _ I4 q4) fun b t5 ⟨G5, I5, q5⟩ => ?_
      have on : ∀ {t' : Shared} {G' : Hp}, L2.Inv (X.blk sd Hd scope ce fp) ([] ++ pinsAt fp t3.heap) σ4 G' t' → Nx G' → ∃ m, m < n ∧ ∃ i G, L2.Inv (X.blk sd Hd scope ce fp) [] (wipe σ (own.map (·.2))) G t' ∧ tn i t'.heap ∧ (∀ b ∈ fp, G b = none) ∧ W i m G := by
        intro t' G' I' nx
        obtain ⟨m', lt, w'⟩ := less G' nx
        have pin : ∀ b ∈ fp, ∀ o, t3.heap.get? b = some o → t'.heap.get? b = some o ∧ G' b = none := fun b hb o e => by
          have := I'.pin (b, o) (List.mem_append_right _ (List.mem_append_right _ (mem_pinsAt hb e)))
          exact ⟨this.1, this.2.1⟩
        refine ⟨m', lt, i + 1, G', (I'.unpinned (pins := [])).weak (by rw [← wp4, wipe_length]) (fun j v e => ?_), T.keep _ _ _ tn3 fun b hb o e => (pin b hb o e).1, fun b hb => ?_, w'⟩
        · rw [← wp4] at e
          exact (wipe_some e).1
        · obtain ⟨o, ho, _⟩ := T.obj _ _ tn3 b hb
          exact (pin b hb o ho).2
      match b, q5 with
      | false, q5 => exact on I5 q5
      | true, q5 =>
        refine thnF (pk.run _ t5 σ4 G5 _ I5 q5) fun uk t6 ⟨yk, G6, I6, r6, q6⟩ => ?_
        refine thnF (pv.run _ t6 σ4 G6 _ I6 q6) fun uv t7 ⟨yv, G7, I7, r7, d, kvs, kk, ed, hd, hDk, hlt, nx⟩ => ?_
        subst ed
        obtain rfl : uk = Value.ref d := r6
        exact dT_set (X := X.blk sd Hd scope ce fp) hu I7 hDk hlt hd r7 fun t8 I8 => on I8 nx
  have goal := codeAny_compStart_dict run (T.self X.A 0 _ _ _ te run)
  rw [← ece, ← ecl, ← eC, ← ese, ← eD] at goal
  rw [← esd] at goal
  exact goal
end
end Z

/-! {(a, b): c for ..} as a rule -/
namespace Z
open PySem L2
variable {X : Cx} {P : Program} {w : World} {K : PySem.W.Frag} {mg : Str → Option Value} {base : Heap} {N : List Str} {sc : Scope} {k : Nat} {σ : L2.St} {H : Hp} {Q : VK} {tg : Expr} {nx bk ct : L2.St → Hp → Prop} {rt : VK}
/-- put in one by one -/
def putsT (key : Nat → List Key) (val : Nat → V) : Nat → List (List Key × V)
  | 0 => []
  | i + 1 => putK (putsT key val i) (key i) (val i)
theorem putsT_len (key : Nat → List Key) (val : Nat → V) : ∀ i, (putsT key val i).length ≤ i
  | 0 => Nat.le_refl _
  | i + 1 => by
    have := putsT_len key val i
    have := length_putK (putsT key val i) (key i) (val i)
    show (putK _ _ _).length ≤ _
    omega
theorem e_dcT {kx vx it : Expr} {scope : Scope} {own : List (Str × Nat)} {pos : Pos} (C : Ctx X P w K mg base N sc k) (hb : blkC N sc scope own = true)
    (h : zI X tg it σ H fun J H1 => ∃ n S Y key val, Walk J n S Y ∧ n ≤ 100000 ∧ (∀ H', Ex H1 H' → S H') ∧
      (∀ i x H', i < n → Ex H1 H' → Y i x H' → ∀ X1, Ctx X1 P w K mg base N (relS scope sc) k → zG X1 tg x (wipe σ (own.map (·.2))) H' fun σ2 H2 => wipe σ2 (own.map (·.2)) = wipe σ (own.map (·.2)) ∧ Ex H' H2 ∧
        ∀ X2, Ctx X2 P w K mg base N (relS scope sc) k → zE X2 kx σ2 H2 fun y H4 => ∀ X3, Ctx X3 P w K mg base N (relS scope sc) k → zE X3 vx σ2 H4 fun z H5 => Ex H2 H5 ∧ ∃ d, y = .ref d ∧ H5 d = some (.tup ((key i).map kV)) ∧ z = val i) ∧
      ∀ D H', H1 D = none → Ex H1 H' → H' D = some (.dT (putsT key val n)) → Q (.ref D) H')
    (hs : ∀ x, foldedSetIterable it X.env x = pure x := by intro _; rfl) : zE X (.DictComp kx vx [⟨tg, it, [], 0⟩] scope pos) σ H Q := by
  refine zE_of (t := tDt (zI X tg it) (zGb X scope tg) (zTb X scope []) (zEb X scope kx) (zEb X scope vx) (own.map (·.2))) ⟨fun pins s σ H Q I h => ?_⟩ ?_
  · rw [arm_eval_DictComp]
    refine dcT_core (own := own) C.hu C.calm (by rw [C.nms]; exact C.nd) I (zI_ok tg it) (by rw [C.nms, C.scp]; exact blkOk_by hb)
      (fun s H0 c0 cl fp => ⟨fun ps s' σ H v u Q I r q => (zG_ok tg).run ps s' σ H v u Q I r (q s H0 c0 cl fp)⟩) (fun s H0 c0 cl fp => ⟨fun ps s' σ H Q I q => (zTs_ok []).run ps s' σ H Q I (q s H0 c0 cl fp)⟩)
      (fun s H0 c0 cl fp => ⟨fun ps s' σ H Q I q => (zE_ok kx).run ps s' σ H Q I (q s H0 c0 cl fp)⟩) (fun s H0 c0 cl fp => ⟨fun ps s' σ H Q I q => (zE_ok vx).run ps s' σ H Q I (q s H0 c0 cl fp)⟩) hs h fun D c s' m H' I' q hn f => ⟨m, hn, fun h'' sb => ?_⟩
    obtain ⟨f0, f1, f2, f3, f4, f5⟩ := f
    exact ⟨.ref D, H', I'.turned (t' := s'.toks) (fun b o hb e => (sb.2 b hb).trans e) f0 f1 f3 f4 f5, rfl, q⟩
  show zI X tg it σ H _
  refine zI_mono h fun J H1 ⟨n, S, Y, key, val, W, hn, hS, ht, hd⟩ D nD => ⟨fun i m G => m = n - i ∧ i ≤ n ∧ Ex H1 G ∧ G D = some (.dT (putsT key val i)), ⟨n, rfl, Nat.zero_le _, Evl.Ex.new nD, upd_same⟩, ?_⟩
  rintro i m G ⟨rfl, hi, eG, hD⟩
  by_cases hlt : i < n
  · refine .inr ⟨W.go i G hlt (hS G eG), fun G' => Ex H1 G' ∧ G' D = some (.dT (putsT key val (i + 1))), fun G' ⟨a, b⟩ => ⟨n - (i + 1), by omega, rfl, hlt, a, b⟩, fun x G1 y => ?_⟩
    obtain ⟨e1, y1⟩ := W.yld i G x G1 hlt (hS G eG) y
    refine gb_intro C fun X1 C1 => zG_mono (ht i x G1 hlt (eG.trans e1) y1 X1 C1) fun σ2 G2 ⟨wp, e2, hk⟩ => ⟨wp, fun _ _ _ _ _ => ts_nil ?_⟩
    refine if_pos rfl ▸ eb_intro C fun X2 C2 => zE_mono (hk X2 C2) fun yk G4 hv => eb_intro C fun X3 C3 => zE_mono (hv X3 C3) fun z G5 ⟨e5, d, ed, hdd, ez⟩ => ?_
    subst ez
    have e15 : Ex H1 G5 := (eG.trans e1).trans (e2.trans e5)
    have hD5 := e5 _ _ (e2 _ _ (e1 _ _ hD))
    refine ⟨d, _, key i, ed, hdd, hD5, small_lt (by have := putsT_len key val i; omega), fun b o hb => ?_, upd_same⟩
    rw [upd_ne (fun e => by rw [e, nD] at hb; cases hb)]
    exact e15 b o hb
  · have : i = n := by omega
    subst this
    exact .inl ⟨W.stop G (hS G eG), hd D G nD eG hD⟩
theorem sw_cellD {y : Str} {py pos : Pos} {kx vx : Expr} {gs : List Comprehension} {scope : Scope} {l : Nat} (C : Ctx X P w K mg base N sc k) (h : (sc.names.lookup y == some .cell) = true) : swapsWithSole [.Name y py] (.DictComp kx vx gs scope pos) l X.env = pure false := by
  have ky : X.env.kindOf y = some .cell := by
    show X.env.scope.names.lookup y = _
    rw [C.scp]
    exact beq_iff_eq.mp h
  unfold swapsWithSole swapsWith
  simp only [ky]
  have e : ((some NameKind.cell : Option NameKind) == some NameKind.local) = false := rfl
  simp only [e, Bool.and_false, Bool.false_and]
/-- y = {.. for ..}, y read by a comprehension -/
theorem s_dcC {y : Str} {py : Pos} {kx vx : Expr} {gs : List Comprehension} {scope : Scope} {pos spos : Pos} (C : Ctx X P w K mg base N sc k) (h : zE X (.DictComp kx vx gs scope pos) σ H fun v H1 => zG X (.Name y py) v σ H1 nx)
    (hc : (sc.names.lookup y == some .cell) = true := by decide +kernel) (hw : swappedStores [.Name y py] (.DictComp kx vx gs scope pos) X.env = pure none := by rfl) : zS X (.Assign [.Name y py] (.DictComp kx vx gs scope pos) spos) nx rt bk ct σ H := s_asg h (sw_cellD C hc) hw
end Z

/-! a tuple from its end: t[::-1] -/
namespace Z
open PySem L2 PySem.Spec PyProof.Rows
section
variable {prog : Program} {w : World} {A : Around} {E : Value → Shared → Prop} {s : Shared}
theorem rev_places (n : Nat) : Builtin.Slice.slicePlaces ((n : Int) - 1) (-1) (-1) = n := by
  unfold Builtin.Slice.slicePlaces
  rw [if_neg (by decide)]
  split
  · have : -(-1 : Int) = 1 := rfl
    rw [this, Int.ediv_one]
    omega
  · omega
theorem sliceApplied_rev {sl : Addr} {vs : Value} {n : Nat} {Q : Int × Int × Nat → Shared → Prop} (hs : s.heap.IsSliceOf sl .none .none vs) (ps : IsPart vs (some (-1))) (h : Q ((n : Int) - 1, -1, n) s) : wpAny (model prog w) A (Builtin.Slice.sliceApplied (.ref sl) (pure (n : Int))) Q E s := by
  obtain ⟨os, hos, hcs, hds⟩ := id hs
  unfold Builtin.Slice.sliceApplied Builtin.Slice.sliceFields
  refine wpAny_bind (wpAny_bind (wpAny_field hos hds (x := .none) rfl (wpAny_bind (wpAny_field hos hds (x := .none) rfl (wpAny_bind (wpAny_field hos hds (x := vs) rfl (wpAny_pure ?_)))))))
  refine wpAny_bind (HT.slicePart_ ps ?_)
  show wpAny _ _ (if ((-1 : Int) == 0) = true then _ else _) _ _ s
  rw [if_neg (by decide)]
  refine wpAny_bind (HT.slicePart_ .none (wpAny_bind (HT.slicePart_ .none (wpAny_bind (wpAny_pure ?_)))))
  show wpAny _ _ (pure ((n : Int) - 1, (-1 : Int), Builtin.Slice.slicePlaces ((n : Int) - 1) (-1) (-1))) _ _ s
  rw [rev_places]
  exact wpAny_pure h
theorem pick_rev (xs : Array Value) : ((List.range xs.size).filterMap fun (k : Nat) => xs[(((xs.size : Nat) : Int) - 1 + (k : Int) * (-1)).toNat]?) = xs.toList.reverse := by
  rw [← PySem.W.krv_all xs, ← List.filterMap_reverse, ← PySem.W.krv_range, List.filterMap_map]
  have e : (fun (k : Nat) => xs[(((xs.size : Nat) : Int) - 1 + (k : Int) * (-1)).toNat]?) = (fun x => xs[x]?) ∘ fun k => xs.size - 1 - k := by
    funext k
    show xs[_]? = xs[xs.size - 1 - k]?
    congr 1
    omega
  rw [e]
theorem getItem_tuple_rev {t sl : Addr} {items : Array Value} {vs : Value} {Q : Value → Shared → Prop} (ht : IsTup s.heap t items) (hs : s.heap.IsSliceOf sl .none .none vs) (ps : IsPart vs (some (-1)))
    (h : Q (.ref s.heap.objs.size) { s with heap := s.heap.push { cls := .type "tuple", data := .seq items.toList.reverse.toArray } })
    (hsz : items.size ≤ sizeLine) : wpAny (model prog w) A (getItem (.ref t) (.ref sl)) Q E s := by
  have htake : sizeOk (.seq items.toList.reverse.toArray) := by
    show items.toList.reverse.toArray.size ≤ sizeLine
    rw [List.size_toArray, List.length_reverse, Array.length_toList]
    exact hsz
  obtain ⟨os, hos, hcs, hds⟩ := id hs
  have hTs : s.TypeIs (.ref sl) "slice" := ⟨os, hos, hcs⟩
  unfold getItem
  try with_reducible refine wpAny_holding ?_
  first | refine wpAny_bind (wpAny_pure ?_) | skip
  refine wpAny_bind (wpAny_sequenceKey ht.typeIs (by decide) ?_)
  refine wpAny_bind (wpAny_callSpecial?_slot (name := Str.ofString "__getitem__") ht.typeIs PyProof.Rows.slot_tuple_getitem
    (wpAny_call_entry PyProof.Rows.slot_tuple_getitem ht.typeIs entry_tuple_getitem ?_ (args_tuple_getitem _ _)))
  show wpAny _ _ (Builtin.Tuple.tupleItemsOf (.ref t) >>= _) _ _ s
  refine wpAny_bind (tupleItemsOf_ ht ?_)
  refine wpAny_bind (wpAny_typeOf hTs ?_)
  rw [if_pos (by decide)]
  refine wpAny_bind (sliceApplied_rev hs ps ?_)
  have hno : ¬ (((((items.size : Nat) : Int) - 1) == 0 && (-1 : Int) == 1 && items.size == items.size) = true) := by
    intro q
    rw [Bool.and_eq_true, Bool.and_eq_true] at q
    exact absurd q.1.2 (by decide)
  show wpAny _ _ (if ((((items.size : Nat) : Int) - 1) == 0 && (-1 : Int) == 1 && items.size == items.size) = true then _ else _) _ _ s
  rw [if_neg hno, pick_rev]
  first
    | exact wpAny_bind (m := Builtin.Tuple.tupleExact _) (wpAny_newObj_type (wpAny_pure ⟨_, rfl, wpAny_pure h⟩) htake)
    | exact wpAny_bind (m := Builtin.Tuple.tupleExact _) (wpAny_newObj_type (wpAny_bind (wpAny_pure (wpAny_pure ⟨_, rfl, wpAny_pure h⟩))) htake)
    | exact wpAny_bind (wpAny_bind (m := Builtin.Tuple.tupleExact _) (wpAny_newObj_type (wpAny_pure (wpAny_pure ⟨_, rfl, wpAny_pure h⟩)) htake))
    | exact wpAny_bind (wpAny_bind (m := Builtin.Tuple.tupleExact _) (wpAny_newObj_type (wpAny_pure ⟨_, rfl, wpAny_pure h⟩) htake))
end
section
variable {X : Cx} {P : Program} {w : World} {K : PySem.W.Frag} {mg : Str → Option Value} {base : Heap} {N : List Str} {sc : Scope} {k : Nat} {σ : L2.St} {H : Hp} {Q : VK}
def tRevT (K : PySem.W.Frag) (te : TE) : TE := fun σ H Q => te σ H fun x H1 => ∃ a xs, x = .ref a ∧ SqT K H1 a xs ∧ ∀ p, H1 p = none → Q (.ref p) (upd H1 p (.tup xs.reverse))
theorem pe_revT {e : Expr} {te : TE} {k : Nat} {p1 p2 p3 pos : Pos} (he : PE X e te) : PE X (.Subscript e (.Slice none none (some (.UnaryOp .USub (.Constant (.int 1) k p1) p2)) p3) pos) (tRevT X.K te) := by
  refine ⟨fun pins s σ H Q I h => ?_⟩
  refine Subscript_ (thn (he.run pins s σ H _ I h) fun v s1 ⟨x, H1, I1, r1, q1⟩ => ?_)
  obtain ⟨a, xs, ex, hx, q⟩ := q1
  subst ex
  cases r1
  have hst : PO X (some (.UnaryOp .USub (.Constant (.int 1) k p1) p2)) (tPart (tUn (rU fun i => .int (-i)) (tC (.int 1)))) := po_some (pe_un un_neg pe_int)
  refine wpAny_Slice (thn (po_none.run pins s1 σ H1 (fun o H2 => o = none ∧ H2 = H1) I1 ⟨rfl, rfl⟩) fun vl s2 ⟨l, H2, I2, pl, el, e2⟩ => ?_)
  subst el e2
  refine thn (po_none.run pins s2 σ H2 (fun o H3 => o = none ∧ H3 = H2) I2 ⟨rfl, rfl⟩) fun vu s3 ⟨u, H3, I3, pu, eu, e3⟩ => ?_
  subst eu e3
  refine thn (hst.run pins s3 σ H3 (fun o H4 => o = some (-1) ∧ H4 = H3) I3 ⟨1, rfl, -1, rfl, rfl, rfl⟩) fun vs s4 ⟨o, H4, I4, ps, eo, e4⟩ => ?_
  subst eo e4
  have I5 : Inv X pins σ H4 { s4 with heap := s4.heap.push { cls := .type "slice", data := .fields #[vl, vu, vs] } } := I4.kept (t' := s4.toks) fun b ob q => Heap.get?_push_of_some _ q
  cases pl
  cases pu
  obtain ⟨its, r, ht, hz⟩ := I5.tuple hx
  have hlen := r.length
  show wpAny (model X.prog X.w) X.A (subscriptTail e (.Slice none none (some (.UnaryOp .USub (.Constant (.int 1) k p1) p2)) p3) (.ref a) (.ref s4.heap.objs.size)) (EP X pins σ Q) X.xe { s4 with heap := s4.heap.push { cls := .type "slice", data := .fields #[.none, .none, vs] } }
  refine tail_any (ops := [.ref a, .ref s4.heap.objs.size]) ht.typeIs PyProof.Rows.slot_tuple_getitem.lookup ?_ (by with_unfolding_all rfl)
  refine getItem_tuple_rev ht (Heap.IsSliceOf.new _ .none .none vs) ps ?_ (by rw [List.size_toArray]; omega)
  refine ⟨.ref _, _, I5.laid (t' := s4.toks) (o := .tup xs.reverse) (fun b ob q => Heap.get?_push_of_some _ q) (Nat.le_refl _) ?_, rfl, q _ (I5.hok.fresh (Nat.le_refl _))⟩
  exact ⟨by show xs.reverse.length ≤ sizeLine; rw [List.length_reverse]; exact hz, _, r.reverse, IsTup.new _ _⟩
theorem e_revT {e : Expr} {kk : Nat} {p1 p2 p3 pos : Pos} (h : zE X e σ H fun v H1 => ∃ l xs, v = .ref l ∧ SqT X.K H1 l xs ∧ ∀ p H2, H1 p = none → Ex H1 H2 → H2 p = some (.tup xs.reverse) → Q (.ref p) H2) :
    zE X (.Subscript e (.Slice none none (some (.UnaryOp .USub (.Constant (.int 1) kk p1) p2)) p3) pos) σ H Q := zE_of (pe_revT (zE_ok e)) (zE_mono h fun v H1 ⟨l, xs, h1, h2, h3⟩ => ⟨l, xs, h1, h2, fun p np => h3 p _ np (Evl.Ex.new np) upd_same⟩)
end
end Z

/-! targets with a star; x(*y), x a local that holds a class; class methods; defs with *rows -/
namespace Z
open PySem L2
section
open PySem.W PyProof.Rows
variable {prog : Program} {w : World} {A : Around} {E : Value → Shared → Prop} {s : Shared}
theorem starT_items {l : Addr} {items : Array Value} {n i : Nat} {R : List Value → Shared → Prop} (hl : IsTup s.heap l items) (hh : A.handled = none) (hi : i < n) (hn : n ≤ items.size + 1) (hz : items.size ≤ 16384)
    (h : ∀ (g : Heap) (tk : Nat), Heap.ExtBut s.heap.objs.size s.heap g → wpAny (model prog w) A (newList ((items.toList.drop i).take (items.size + 1 - n)) >>= fun d => pure (items.toList.take i ++ [d] ++ (items.toList.drop i).drop (items.size + 1 - n))) R E { s with heap := g, toks := tk }) : wpAny (model prog w) A (unpackItems (.ref l) n (some i)) R E s := by
  obtain ⟨o0, ho0, hr0⟩ := id hl
  have ne : l ≠ s.heap.objs.size := Nat.ne_of_lt (Heap.lt_size ho0)
  unfold unpackItems notIterableAtAll
  refine wpAny_bind (wpAny_bind (wpAny_specialOf hl.typeIs slot_tuple_iter.lookup (wpAny_pure ?_)))
  simp only [Bool.false_eq_true, if_false]
  refine wpAny_bind (wpAny_holding (iter_tuple hl (wpAny_bind (wpAny_holding (draw_tuple ne i 0 _ _ ⟨_, Heap.get?_push_size _ rfl, rfl, rfl⟩ (hl.push _) (by omega) fun g1 it1 sb1 => ?_)))))
  have tl1 : IsTup g1 l items := (hl.push _).extBut sb1.extBut ne
  rw [Nat.zero_add] at it1
  obtain ⟨o1, ho1, _⟩ := id it1
  obtain ⟨o2, ho2, _⟩ := id tl1
  have len1 : (items.toList.take i).length = i := by rw [List.length_take, Array.length_toList]; omega
  have len2 : (items.toList.drop i).length = items.size - i := by rw [List.length_drop, Array.length_toList]
  have len3 : (items.toList.drop i).length - (n - 1 - i) = items.size + 1 - n := by rw [len2]; omega
  rw [List.drop_zero, if_neg (by rw [len1]; omega : ¬ (items.toList.take i).length < i)]
  refine wpAny_bind (wpAny_holding (kun_collect (s := { s with heap := g1 }) (T := "tuple_iterator") (k := i) (.inr (.inr (.inr rfl))) (Walks.tuple (A := A.in1) hh s.heap.objs.size l ne items) (fun _ _ z => z.1.typeIs) (by omega) ⟨it1, tl1⟩ (Heap.lt_size ho1) (Heap.lt_size ho2) (fun g2 tk k2 => ?_) (by rw [sizeLine_eq]; omega)))
  dsimp only
  rw [if_neg (by rw [len2]; omega : ¬ (items.toList.drop i).length < n - 1 - i), len3]
  exact h g2 tk fun b o hb e => k2 b o hb (sb1.extBut b o hb (Heap.get?_push_of_some _ e))
theorem starL_items {l : Addr} {items : Array Value} {n i : Nat} {R : List Value → Shared → Prop} (hl : s.heap.IsList l items) (hh : A.handled = none) (hi : i < n) (hn : n ≤ items.size + 1) (hz : items.size ≤ 16384)
    (h : ∀ (g : Heap) (tk : Nat), Heap.ExtBut s.heap.objs.size s.heap g → wpAny (model prog w) A (newList ((items.toList.drop i).take (items.size + 1 - n)) >>= fun d => pure (items.toList.take i ++ [d] ++ (items.toList.drop i).drop (items.size + 1 - n))) R E { s with heap := g, toks := tk }) : wpAny (model prog w) A (unpackItems (.ref l) n (some i)) R E s := by
  obtain ⟨o0, ho0, hr0⟩ := id hl
  have ne : l ≠ s.heap.objs.size := Nat.ne_of_lt (Heap.lt_size ho0)
  unfold unpackItems notIterableAtAll
  refine wpAny_bind (wpAny_bind (wpAny_specialOf hl.typeIs slot_list_iter.lookup (wpAny_pure ?_)))
  simp only [Bool.false_eq_true, if_false]
  refine wpAny_bind (wpAny_holding (wpAny_pyIter_list hl (wpAny_bind (wpAny_holding (kun_draw ne i 0 _ _ ⟨_, Heap.get?_push_size _ rfl, rfl, rfl⟩ (hl.push _) (by omega) fun g1 it1 sb1 => ?_)))))
  have tl1 : g1.IsList l items := (hl.push _).extBut sb1.extBut ne
  rw [Nat.zero_add] at it1
  obtain ⟨o1, ho1, _⟩ := id it1
  obtain ⟨o2, ho2, _⟩ := id tl1
  have len1 : (items.toList.take i).length = i := by rw [List.length_take, Array.length_toList]; omega
  have len2 : (items.toList.drop i).length = items.size - i := by rw [List.length_drop, Array.length_toList]
  have len3 : (items.toList.drop i).length - (n - 1 - i) = items.size + 1 - n := by rw [len2]; omega
  rw [List.drop_zero, if_neg (by rw [len1]; omega : ¬ (items.toList.take i).length < i)]
  refine wpAny_bind (wpAny_holding (kun_collect (s := { s with heap := g1 }) (T := "list_iterator") (k := i) (.inr (.inr (.inl rfl))) (Walks.list (A := A.in1) hh s.heap.objs.size l ne items) (fun _ _ z => z.1.typeIs) (by omega) ⟨it1, tl1⟩ (Heap.lt_size ho1) (Heap.lt_size ho2) (fun g2 tk k2 => ?_) (by rw [sizeLine_eq]; omega)))
  dsimp only
  rw [if_neg (by rw [len2]; omega : ¬ (items.toList.drop i).length < n - 1 - i), len3]
  exact h g2 tk fun b o hb e => k2 b o hb (sb1.extBut b o hb (Heap.get?_push_of_some _ e))
end
section
variable {X : Cx} {P : Program} {w : World} {K : PySem.W.Frag} {mg : Str → Option Value} {base : Heap} {N : List Str} {sc : Scope} {k : Nat} {σ : St} {H : Hp} {Q : VK} {QG : St → Hp → Prop}
/-- a star among the targets -/
theorem gs_star {e : Expr} {p : Pos} {es : List Expr} {v : V} {vs : List V} (h : zG X e v σ H fun σ' H' => zGs X es vs σ' H' QG)
    (hs : (assignEach (.Starred e p :: es) X.env).map (·.2) = assign e X.env :: (assignEach es X.env).map (·.2) := by rfl) : zGs X (.Starred e p :: es) (v :: vs) σ H QG := fun ps s us I r => by
  cases r with
  | cons r rr =>
    rw [hs]
    refine PyProof.Rows.assignInOrder_cons (thn ((zG_ok e).run ps s σ H _ _ _ I r h) fun _ s1 ⟨σ1, H1, I1, q1⟩ => ?_)
    exact q1 ps s1 _ I1 rr
theorem vals_take {xs : List V} {us : List Value} (r : Vals xs us) (i : Nat) : Vals (xs.take i) (us.take i) := by
  induction r generalizing i with
  | nil => rw [List.take_nil, List.take_nil]; exact .nil
  | cons a r ih => cases i with
    | zero => exact .nil
    | succ i => exact .cons a (ih i)
theorem vals_drop {xs : List V} {us : List Value} (r : Vals xs us) (i : Nat) : Vals (xs.drop i) (us.drop i) := by
  induction r generalizing i with
  | nil => rw [List.drop_nil, List.drop_nil]; exact .nil
  | cons a r ih => cases i with
    | zero => exact .cons a r
    | succ i => exact ih i
/-- behind the unpacking: the list of the middle is new -/
theorem star_rest {ps : List (Addr × Obj)} {s : Shared} {es : List Expr} {n i : Nat} {xs : List V} {its : List Value} {g : Heap} {tk : Nat} (I : Inv X ps σ H s) (he : Heap.ExtBut s.heap.objs.size s.heap g) (rv : Vals xs its) (hz : xs.length ≤ 16384)
    (h : ∀ p H', H p = none → Ex H H' → H' p = some (.lst ((xs.drop i).take (xs.length + 1 - n))) → zGs X es (xs.take i ++ [.ref p] ++ (xs.drop i).drop (xs.length + 1 - n)) σ H' QG) :
    wpAny (model X.prog X.w) X.A (newList ((its.drop i).take (its.length + 1 - n)) >>= fun d => pure (its.take i ++ [d] ++ (its.drop i).drop (its.length + 1 - n))) (fun us s' => wpAny (model X.prog X.w) X.A (assignInOrder ((assignEach es X.env).map (·.2)) us) (fun _ s' => ∃ σ' H', Inv X ps σ' H' s' ∧ QG σ' H') X.xe s') X.xe { s with heap := g, toks := tk } := by
  have I1 : Inv X ps σ H { s with heap := g, toks := tk } := I.kept (t' := tk) fun b o e => he b o (Nat.ne_of_lt (Heap.lt_size e)) e
  have hlen := rv.length
  refine wpAny_bind (wpAny_newList (wpAny_pure ?_) (by rw [List.length_take, List.length_drop]; show _ ≤ sizeLine; have : (16384 : Nat) ≤ sizeLine := by decide
                                                       omega))
  have rm : Vals ((xs.drop i).take (xs.length + 1 - n)) ((its.drop i).take (its.length + 1 - n)) := by rw [hlen]; exact vals_take (vals_drop rv i) _
  have hn : H g.objs.size = none := I1.hok.fresh (Nat.le_refl _)
  have new : ObjOk X.prog X.w (upd H g.objs.size (.lst ((xs.drop i).take (xs.length + 1 - n)))) (g.push ({ cls := .type "list", data := .seq ((its.drop i).take (its.length + 1 - n)).toArray } : Obj)) g.objs.size (.lst ((xs.drop i).take (xs.length + 1 - n))) :=
    ⟨by rw [List.length_take, List.length_drop]; have : (16384 : Nat) ≤ sizeLine := by decide
        omega, _, _, rm, Heap.get?_push_size _ rfl⟩
  have I2 : Inv X ps σ (upd H g.objs.size (.lst ((xs.drop i).take (xs.length + 1 - n)))) { s with heap := g.push ({ cls := .type "list", data := .seq ((its.drop i).take (its.length + 1 - n)).toArray } : Obj), toks := tk } := Inv.laid (s := { s with heap := g, toks := tk }) (t' := tk) I1 (fun _ _ e => Heap.get?_push_of_some _ e) (Nat.le_refl _) new
  exact h g.objs.size _ hn (Evl.Ex.new hn) upd_same ps _ _ I2 (((vals_take rv i).append (.cons (show RelV (V.ref g.objs.size) (Value.ref g.objs.size) from rfl) .nil)).append (by rw [hlen]; exact vals_drop (vals_drop rv i) _))
/-- (a, *b, ..) = a tuple or a list of enough items -/
theorem g_star {es : List Expr} {kk : Nat} {pos : Pos} {a : Addr} {xs : List V} {n i : Nat} (C : Ctx X P w K mg base N sc k) (ha : SqT X.K H a xs ∨ SqL X.K H a xs) (hi : i < n) (hl : n ≤ xs.length + 1) (hz : xs.length ≤ 16384)
    (h : ∀ p H', H p = none → Ex H H' → H' p = some (.lst ((xs.drop i).take (xs.length + 1 - n))) → zGs X es (xs.take i ++ [.ref p] ++ (xs.drop i).drop (xs.length + 1 - n)) σ H' QG)
    (hn : (assignEach es X.env).length = n := by rfl) (hst : (assignEach es X.env).findIdx? (·.1) = some i := by rfl) : zG X (.Tuple es kk pos) (.ref a) σ H QG := by
  unfold zG
  intro ps s u I r
  cases r
  rw [PyProof.Rows.assign_Tuple]
  refine wpAny_bind (wpAny_standAt ?_)
  unfold unpack
  rw [hn, hst]
  rcases ha with ha | ha
  · obtain ⟨its, rv, ht, _⟩ := I.tuple ha
    have hlen := rv.length
    refine wpAny_bind (wpAny_holding (starT_items ht (I.ok.hd C.calm) hi (by simp; omega) (by simp; omega) fun g tk he => ?_))
    have := star_rest (tk := tk) (es := es) (n := n) (i := i) I he rv hz h
    simpa using this
  · obtain ⟨its, rv, pl, _⟩ := I.list ha
    have ht : s.heap.IsList a its.toArray := by
      obtain ⟨o, m, e, c, d, q⟩ := pl
      exact ⟨o, e, c, m, q⟩
    have hlen := rv.length
    refine wpAny_bind (wpAny_holding (starL_items ht (I.ok.hd C.calm) hi (by simp; omega) (by simp; omega) fun g tk he => ?_))
    have := star_rest (tk := tk) (es := es) (n := n) (i := i) I he rv hz h
    simpa using this
/-- (a, *b) = a tuple or a list of one item and more -/
theorem g_star1 {e1 e2 : Expr} {p2 : Pos} {kk : Nat} {pos : Pos} {a : Addr} {x : V} {ys : List V} (C : Ctx X P w K mg base N sc k) (ha : SqT X.K H a (x :: ys) ∨ SqL X.K H a (x :: ys)) (hz : ys.length < 16384)
    (h : ∀ p H', H p = none → Ex H H' → H' p = some (.lst ys) → zG X e1 x σ H' fun σ2 H2 => zG X e2 (.ref p) σ2 H2 QG)
    (hn : (assignEach [e1, .Starred e2 p2] X.env).length = 2 := by rfl) (hst : (assignEach [e1, .Starred e2 p2] X.env).findIdx? (·.1) = some 1 := by rfl)
    (hs1 : (assignEach [e1, .Starred e2 p2] X.env).map (·.2) = assign e1 X.env :: (assignEach [.Starred e2 p2] X.env).map (·.2) := by rfl) (hs2 : (assignEach [.Starred e2 p2] X.env).map (·.2) = assign e2 X.env :: (assignEach [] X.env).map (·.2) := by rfl) :
    zG X (.Tuple [e1, .Starred e2 p2] kk pos) (.ref a) σ H QG := by
  refine g_star (n := 2) (i := 1) C ha (by decide) (by simp) (by simp; omega) (fun p H' np e hp => ?_) hn hst
  have l1 : (x :: ys).length + 1 - 2 = ys.length := by simp
  rw [l1] at hp ⊢
  have d1 : (x :: ys).drop 1 = ys := rfl
  rw [d1] at hp ⊢
  rw [List.take_length] at hp
  rw [List.drop_length]
  exact gs_cons (zG_mono (h p H' np e hp) fun σ2 H2 q => gs_star (zG_mono q fun σ3 H3 q3 => gs_nil q3) hs2) hs1
end
end Z

/-! x(*y), x a local that holds a class; class methods; defs with *rows -/
namespace Z
open PySem L2
section
variable {P : Program} {w : World} {K : PySem.W.Frag} {mg : Str → Option Value} {base : Heap} {N : List Str} {k : Nat}
/-- the promise of a def with a star parameter, told of the values of a call -/
def spStar (n : Nat) (sp : Sp) : Sp := fun vs H Q E => ∃ ws rest, vs = ws ++ rest ∧ ws.length = n ∧ rest.length ≤ sizeLine ∧ ∀ p, H p = none → sp (ws ++ [V.ref p]) (upd H p (.tup rest)) Q E
/-- the body of a method with a star parameter -/
theorem fn_okSM {x q : Str} {st : Stmt} {kws : List (Str × V)} {f : Addr} {fd : FuncData} {ps : List Str} {pv : Str} {sp : Sp}
    (F : FunD K x q (defArgs st) (defBody st) (defScope st) [] kws f fd) (S : FnScope N (ps ++ [pv]) (defScope st))
    (hb : ∀ (kV doc pm : Value) (an : Option Addr) (cdv ct : Value), ∀ us rest : List Value, us.length = ps.length → bindArgs (PySem.W.fnOf x q (defArgs st) (defBody st) (defScope st) .none kV doc pm an cdv ct) ⟨us ++ rest, []⟩ = (newTuple rest >>= fun t => pure (ps.zip us ++ [(pv, t)])))
    (body : ∀ X vs H Q E, Ctx X P w K mg base N (defScope st) k → (∀ y, X.fn y = true) → Takes X (WE E) → X.env.code = fd.code → X.env.qual = q ++ ".<locals>." → sp vs H Q E → zB X (defBody st) (fun _ H' => Q .non H') Q (fun _ _ => False) (fun _ _ => False) (start N vs) H) :
    FnR P w K mg base (L2.CX P w) (k + 1) f (spStar ps.length sp) := by
  obtain ⟨oc, od, dV, kV, doc, pm, an, cdv, ct, osl, rfl, lk, hcd, hD, _⟩ := F.ex
  have hd : dV = .none := by
    rcases hD with ⟨_, h⟩ | ⟨h, _⟩
    · exact h
    · exact absurd rfl h
  subst hd
  exact StX.fn_star lk hcd S StX.cxUp (hb _ _ _ _ _ _) fun A outer s H vs Q E hr h => ⟨_, zB_ok _, body _ vs H Q E ⟨rfl, rfl, rfl, rfl, rfl, rfl, rfl, rfl, hr, passes_of rfl, S.nd⟩ (fun _ => rfl) (takes_of rfl rfl rfl rfl) rfl rfl h⟩
/-- the class at CA, made with any number of values -/
structure CalC (P : Program) (w : World) (K : PySem.W.Frag) (mg : Str → Option Value) (base : Heap) (CX : CXT) (CA : Addr) (j : Nat) (sp : Sp) : Prop where
  ex : ∃ f, Mk K CA f ∧ FnR P w K mg base CX j f sp
/-- the class method m of the class at CA -/
structure CalW (P : Program) (w : World) (K : PySem.W.Frag) (mg : Str → Option Value) (base : Heap) (CX : CXT) (CA : Addr) (m : Str) (j : Nat) (sp : Sp) : Prop where
  ex : ∃ mc p g, ClX.CRead K CA mc ∧ ClX.CMet K CA mc m p g ∧ FnR P w K mg base CX j g sp
end
section
variable {X : Cx} {P : Program} {w : World} {K : PySem.W.Frag} {mg : Str → Option Value} {base : Heap} {N : List Str} {sc : Scope} {k : Nat} {σ : St} {H : Hp} {Q : VK} {CX : CXT} {CA : Addr} {j : Nat} {sp : Sp} {E : XK}
/-- x(*y), x a local that holds the class at CA -/
theorem e_clsS {x : Str} {i : Nat} {e : Expr} {sp_ p pos : Pos} (C : Ctx X P w K mg base N sc k) (c : CalC P w K mg base CX CA j sp) (hj : j + 1 ≤ k) (hx : Passes CX X E) (n : Nm X x i) (hs : σ[i]? = some (some (.ref CA)))
    (h : zE X e σ H fun y H1 => ∃ a xs, y = .ref a ∧ (SqT K H1 a xs ∨ SqL K H1 a xs) ∧ ∀ o dx, H1 o = none → H1 dx = none → dx ≠ o → sp (.ref o :: xs) (upd (upd H1 dx (.own o)) o (.ins CA dx [])) (fun v H2 => v = .non ∧ Q (.ref o) H2) E)
    (hdb : (x == ("__debug__" : Str)) = false := by decide) (hcd : (x == ("__classdict__" : Str)) = false := by decide) (hst : starEach [.Starred e sp_] X.env = [(true, eval e X.env)] := by rfl) : zE X (.Call (.Name x p) [.Starred e sp_] [] pos) σ H Q := by
  obtain ⟨f, M, F⟩ := c.ex
  obtain ⟨rfl, rfl, rfl, rfl, rfl, _, _, _, hr, _, _⟩ := C
  unfold zE
  intro ps s I
  refine wpAny_Call_Name_kw (thn ((pe_var (pos := p) n.ix n.vis hdb hcd).run ps s σ H (fun v H1 => v = .ref CA ∧ H1 = H) I ⟨_, hs, rfl, rfl⟩) fun u s1 ⟨v, H1, I1, r1, q1⟩ => ?_)
  obtain ⟨rfl, rfl⟩ := q1
  cases r1
  refine PySem.W.callWith_S (h₀ := X.base) (first := []) I1.ok.mod.kin M.kp (thn ((zE_ok e).run ps s1 σ _ _ I1 h) fun v s2 ⟨y, H2, I2, ry, a, xs, ey, hxs, q⟩ => ?_) hst
  subst ey
  cases ry
  exact StX.star_any I2 hxs fun us s3 I3 rv => ⟨I3.kIn, StX.run_makeR M F (hr.mono hj) hx I3 rv q⟩
/-- x(e, ..), x the class at CA -/
theorem e_clsP {x : Str} {e : Expr} {es : List Expr} {p pos : Pos} (C : Ctx X P w K mg base N sc k) (c : CalC P w K mg base CX CA j sp) (g : mg x = some (.ref CA)) (hj : j + 1 ≤ k) (hx : Passes CX X E)
    (h : zA X (e :: es) σ H fun vs H1 => ∀ o dx, H1 o = none → H1 dx = none → dx ≠ o → sp (.ref o :: vs) (upd (upd H1 dx (.own o)) o (.ins CA dx [])) (fun v H2 => v = .non ∧ Q (.ref o) H2) E)
    (hg : gloB sc x = true := by decide +kernel) (hdb : (x == ("__debug__" : Str)) = false := by decide) (he : starEach (e :: es) X.env = (false, eval e X.env) :: starEach es X.env := by rfl) (hpl : (backTo pos (starEach es X.env)).any (·.1) = false := by rfl) :
    zE X (.Call (.Name x p) (e :: es) [] pos) σ H Q := by
  obtain ⟨f, M, F⟩ := c.ex
  have hgl := C.gl hg
  obtain ⟨rfl, rfl, rfl, rfl, rfl, _, _, _, hr, _, _⟩ := C
  exact zE_of (StX.pe_makeR M F (hr.mono hj) hgl g hx (zA_ok _) hdb he hpl) h
/-- x.m(e, ..), x the class at CA, m a class method -/
theorem e_cm {x m : Str} {e : Expr} {es : List Expr} {p ap pos : Pos} {pl : Sem Bool} (C : Ctx X P w K mg base N sc k) (c : CalW P w K mg base CX CA m j sp) (g : mg x = some (.ref CA)) (hj : j ≤ k) (hx : Passes CX X E)
    (h : zA X (e :: es) σ H fun vs H1 => sp (.ref CA :: vs) H1 Q E) (hg : gloB sc x = true := by decide +kernel) (hd : (x == ("__debug__" : Str)) = false := by decide)
    (hst : starEach (e :: es) X.env = (false, eval e X.env) :: starEach es X.env := by rfl) (hpl : (backTo pos (starEach es X.env)).any (·.1) = false := by rfl)
    (ht : eval (.Call (.Attribute (.Name x p) m ap) (e :: es) [] pos) X.env = (do
      let ov ← eval (.Name x p) X.env
      standAt ap.atName
      let (f, first) ← holding [ov] (getMethod ov m pl)
      callWith pos f first (backTo pos (starEach (e :: es) X.env)) (backToKw pos (keywordEach [] X.env))) := by rfl) :
    zE X (.Call (.Attribute (.Name x p) m ap) (e :: es) [] pos) σ H Q := by
  obtain ⟨mc, pp, g', cr, cm, F⟩ := c.ex
  have C' := C
  obtain ⟨rfl, rfl, rfl, rfl, rfl, _, _, _, hr, _, _⟩ := C
  exact zE_of (ClX.pe_cmeth (zE_ok _) cr cm F (hr.mono hj) hx (zA_ok _) hst hpl ht) (e_gref C' g ⟨rfl, h⟩ hg hd)
end
theorem clmB_ok {K : PySem.W.Frag} {C m q : Str} {st : Stmt} (e : fnE K (.clm C m q st) = valE (.clm C m q st)) (h : clmB K C m q = true) :
    ∃ fd, ClX.CRead K (He.ga K C) (.type "type") ∧ ClX.CMet K (He.ga K C) (.type "type") m (He.ma K (He.ga K C) m) (wA K C m) ∧ FunD K m q (defArgs st) (defBody st) (defScope st) [] [] (wA K C m) fd := by
  obtain ⟨h1, h⟩ := He.ba h
  obtain ⟨h2, h⟩ := He.ba h
  obtain ⟨h3, h⟩ := He.ba h
  obtain ⟨h4, h⟩ := He.ba h
  obtain ⟨h5, h⟩ := He.ba h
  obtain ⟨h6, h7⟩ := He.ba h
  have hf : PySem.W.findCls K (.ref (He.ga K C)) (.type "type") m = some (.get (.builtin "classmethod.__get__") (.ref (He.ma K (He.ga K C) m)) .none (.ref (He.ga K C))) := by
    clear h4 h5 h6 h7
    split at h3
    · rename_i g p D e
      obtain ⟨k1, k⟩ := He.ba h3
      obtain ⟨k2, k3⟩ := He.ba k
      rw [e, of_decide_eq_true k1, of_decide_eq_true k2, of_decide_eq_true k3]
    · cases h3
  have hr : ∃ rest, PySem.W.recIn K (He.ma K (He.ga K C) m) "classmethod" = some (.ref (wA K C m) :: rest) := by
    unfold wA
    split at h4
    · rename_i g rest hg
      exact ⟨rest, by rw [hg]⟩
    · cases h4
  have e : fnW K C m = some (m, q, defArgs st, .stmts (defBody st), defScope st, mainGlobals, [], builtinsNs) := e
  unfold fnW at e
  cases lk : K.lookup (wA K C m) with
  | none => rw [lk] at h7; cases h7
  | some o =>
    obtain ⟨oc, od, dt, osl⟩ := o
    rw [lk] at h7 e
    cases dt with
    | func fd =>
      obtain ⟨n1, n2, n3, n4, n5, n6, n7, n8, n9, n10, n11, n12, n13, n14, n15⟩ := fd
      have e2 : (some (n1, n2, n3, n4, n5, n6, n7.map (·.1), n15) : FnC) = some (m, q, defArgs st, .stmts (defBody st), defScope st, mainGlobals, [], builtinsNs) := e
      simp only [Option.some.injEq, Prod.mk.injEq] at e2
      obtain ⟨q1, q2, q3, q4, q5, q6, q7, q8⟩ := e2
      have q7 : n7 = [] := List.map_eq_nil_iff.mp q7
      subst q1 q2 q3 q4 q5 q6 q7 q8
      have h7 : (PySem.W.codeIn K n13 n2 && He.dflB K n8 []) = true := h7
      obtain ⟨k1, k2⟩ := He.ba h7
      exact ⟨_, ⟨h1, He.eqO_ok h2⟩, ⟨hf, hr, h5⟩, ⟨oc, od, n8, n9, n10, n11, n12, n13, n14, osl, rfl, lk, k1, He.dflB_ok k2, .inl rfl⟩, h6⟩
    | _ => cases h7
end Z

/-! great divisors -/
namespace Z
open PySem L2
theorem o_divW {X : Cx} {H : Hp} {Q : VK} {i j : Int} {b : Nat} (h0 : 0 < j) (hb : j.natAbs < 2 ^ b) (h9 : b ≤ 9000) (h : Q (.int (i / j)) H) (hb0 : 0 < b := by decide) : zO X (binaryOp .FloorDiv) (.int i) (.int j) H Q :=
  zO_of op_fdivW ⟨i, j, rfl, rfl, wide_div h0 hb hb0 h9, h⟩
end Z

/-! a + b, a * n by methods of own classes -/
namespace Z
open PySem L2
section
open PySem.W
variable {prog : Program} {w : World} {A : Around} {E : Value → Shared → Prop} {s : Shared} {K : Frag} {x y C D f g : Addr} {ox oy : Obj} {od ody : Option Obj}
/-- both are instances of own classes that have the method and no reflected one -/
theorem bin_two {op : Operator} {R : Value → Shared → Prop} (Y : K.In s.heap) (I : InstAt s.heap x ox C od) (J : InstAt s.heap y oy D ody) (hc : selfFirst K C = true) (hd : selfFirst K D = true)
    (a1 : findIn K (.ref C) (PySem.dunder op.info.2) = some (some (.ref f))) (hf : isFn K (.ref f) = true) (a2 : findIn K (.ref C) (dunderR op.info.2) = some none) (b1 : findIn K (.ref D) (PySem.dunder op.info.2) = some (some (.ref g))) (b2 : findIn K (.ref D) (dunderR op.info.2) = some none)
    (hsub : C ≠ D → subIn K (.ref D) (.ref C) = some false) (h : wpAny (model prog w) A (call (.ref f) [.ref x, .ref y]) (CmpBack R) E s) : wpAny (model prog w) A (binaryOp op (.ref x) (.ref y)) R E s := by
  obtain ⟨c1, r1, q1, m1⟩ := ksp_first hc
  obtain ⟨c2, r2, q2, m2⟩ := ksp_first hd
  rcases hi : op.info with ⟨sym, nm'⟩
  rw [hi] at a1 a2 b1 b2
  dsimp only at a1 a2 b1 b2
  have go := ksp_try Y I a1 hf h
  obtain ⟨hh, g1, g2, g3, g4⟩ := s
  have L1 : Looks (model prog w) hh (typeOf (.ref x)) (.ref C) := I.type
  have L2 : Looks (model prog w) hh (typeOf (.ref y)) (.ref D) := J.type
  have L3 : Looks (model prog w) hh (fillsNumberSlot (.ref C) nm') true := fills_K Y q1 m1 a1
  have L4 : Looks (model prog w) hh (fillsNumberSlot (.ref D) nm') true := fills_K Y q2 m2 b1
  have L6 : Looks (model prog w) hh (numberSlotInPython (.ref C) nm') true := ksp_inPy Y a1 a2 (.inl rfl)
  have L7 : Looks (model prog w) hh (numberSlotInPython (.ref D) nm') true := ksp_inPy Y b1 b2 (.inl rfl)
  simp only [binaryOp, hi]
  refine wpAny_holding (wpAny_bind ?_)
  unfold binaryOp1
  refine wpAny_bind (L1.at (wpAny_bind (L2.at (wpAny_bind (L3.at ?_)))))
  by_cases hCD : C = D
  · subst hCD
    have he : (Value.ref C == Value.ref C) = true := beq_iff_eq.mpr rfl
    simp only [he, if_true]
    ksp_lk
    refine wpAny_mono go (fun r s' hr' => ?_) fun _ _ e => e
    obtain ⟨v, rfl, hq⟩ := hr'
    ksp_lk
    exact hq
  · have L5 : Looks (model prog w) hh (isSubtype (.ref D) (.ref C)) false := looks_subIn Y (hsub hCD)
    have he : (Value.ref C == Value.ref D) = false := Bool.eq_false_iff.mpr fun q => by
      have := beq_iff_eq.mp q
      cases this
      exact hCD rfl
    simp only [he, Bool.false_eq_true, if_false]
    ksp_lk
    refine wpAny_mono go (fun r s' hr' => ?_) fun _ _ e => e
    obtain ⟨v, rfl, hq⟩ := hr'
    ksp_lk
    exact hq
end
/-- the class at C has the method nm (of an operator) and no reflected one -/
structure OpC (K : PySem.W.Frag) (C : Addr) (op : Operator) : Prop where
  first : PySem.W.selfFirst K C = true
  refl : PySem.W.findIn K (.ref C) (dunderR op.info.2) = some none
  has : ∃ g : Addr, PySem.W.findIn K (.ref C) (PySem.dunder op.info.2) = some (some (.ref g))
section
variable {X : Cx} {CX : CXT} {P : Program} {w : World} {K : PySem.W.Frag} {mg : Str → Option Value} {base : Heap} {N : List Str} {sc : Scope} {k j : Nat} {H : Hp} {Q : VK} {sp : Sp} {E : XK}
/-- a + b, own instances both -/
theorem o_binM {op : Operator} {nm : Str} {C D a b dx dy : Addr} {fs gs : List (Str × V)} (Cc : Ctx X P w K mg base N sc k) (c : CalS P w K mg base CX C nm j sp) (hop : PySem.dunder op.info.2 = nm) (T1 : OpC K C op) (T2 : OpC K D op) (hsub : C ≠ D → PySem.W.subIn K (.ref D) (.ref C) = some false) (hj : j ≤ k) (hx : Passes CX X E)
    (ha : H a = some (.ins C dx fs)) (hb : H b = some (.ins D dy gs)) (h : sp [.ref a, .ref b] H (fun v H1 => ∃ p, v = .ref p ∧ Q (.ref p) H1) E) : zO X (binaryOp op) (.ref a) (.ref b) H Q := by
  obtain ⟨f, fd, ps, T, F, hbd⟩ := c.ex
  obtain ⟨rfl, rfl, rfl, rfl, rfl, _, _, _, hr0, _, _⟩ := Cc
  refine zO_of (r := fun x y1 H1 Q1 => x = .ref a ∧ y1 = .ref b ∧ H1 = H ∧ Q1 = Q) (fun pins s σ H1 x y1 u1 u2 Q1 I rx ry ⟨e1, e2, e3, e4⟩ => ?_) ⟨rfl, rfl, rfl, rfl⟩
  subst e1 e2 e3 e4
  cases rx
  cases ry
  obtain ⟨mA, J, _⟩ := ins_get I.hok ha
  obtain ⟨od, J, _⟩ := J.look
  obtain ⟨mB, J', _⟩ := ins_get I.hok hb
  obtain ⟨od', J', _⟩ := J'.look
  obtain ⟨g, hg⟩ := T2.has
  refine bin_two I.kIn J J' T1.first T2.first (by rw [hop]; exact T.at_) T.fn T1.refl hg T2.refl hsub ?_
  refine wpAny_mono (fn_run I F hbd hx (hr0.mono hj) (vs := [.ref a, .ref b]) (.cons rfl (.cons rfl .nil)) h) (fun v s1 ⟨z, H', I', rz, p, ez, q⟩ => ?_) fun _ _ z => z
  subst ez
  cases rz
  exact ⟨.ref p, H', I', rfl, q⟩
/-- a * n, a an own instance, n a number -/
theorem o_binI {op : Operator} {nm : Str} {C a dx : Addr} {i : Int} {fs : List (Str × V)} {fo ro : Option Value} (Cc : Ctx X P w K mg base N sc k) (c : CalS P w K mg base CX C nm j sp) (hop : PySem.dunder op.info.2 = nm) (T1 : OpC K C op) (hsub : PySem.W.subIn K (.type "int") (.ref C) = some false)
    (h1 : PySem.W.findIn K (.type "int") (PySem.dunder op.info.2) = some fo) (h2 : PySem.W.findIn K (.type "int") (dunderR op.info.2) = some ro) (hj : j ≤ k) (hx : Passes CX X E)
    (ha : H a = some (.ins C dx fs)) (h : sp [.ref a, .int i] H (fun v H1 => ∃ p, v = .ref p ∧ Q (.ref p) H1) E) : zO X (binaryOp op) (.ref a) (.int i) H Q := by
  obtain ⟨f, fd, ps, T, F, hbd⟩ := c.ex
  obtain ⟨rfl, rfl, rfl, rfl, rfl, _, _, _, hr0, _, _⟩ := Cc
  refine zO_of (r := fun x y1 H1 Q1 => x = .ref a ∧ y1 = .int i ∧ H1 = H ∧ Q1 = Q) (fun pins s σ H1 x y1 u1 u2 Q1 I rx ry ⟨e1, e2, e3, e4⟩ => ?_) ⟨rfl, rfl, rfl, rfl⟩
  subst e1 e2 e3 e4
  cases rx
  obtain ⟨t, rfl⟩ := id ry
  obtain ⟨mA, J, _⟩ := ins_get I.hok ha
  obtain ⟨od, J, _⟩ := J.look
  obtain ⟨m, hF⟩ := I.fr
  refine PySem.W.ksp_binT (T := "int") hF I.ok.mod.kin J rfl T1.first (by rw [hop]; exact T.at_) T.fn T1.refl (.inl rfl) h1 h2 hsub ?_
  refine wpAny_mono (fn_run I F hbd hx (hr0.mono hj) (vs := [.ref a, .int i]) (.cons rfl (.cons ⟨t, rfl⟩ .nil)) h) (fun v s1 ⟨z, H', I', rz, p, ez, q⟩ => ?_) fun _ _ z => z
  subst ez
  cases rz
  exact ⟨.ref p, H', I', rfl, q⟩
end
end Z

/-! sorted of a text -/
namespace Z
open PySem L2 PyProof.Rows PySem.Froz
section
variable {P : Program} {w : World} {A : Around} {E : Value → Shared → Prop} {s : Shared}
def signS (c : Nat) : Str := ⟨#[c]⟩
theorem signs_strs {x : Str} {acc : Array Value} (h : ItemsOf (SignAt x) acc x.cps.size) : StrsAre acc.toList ((tl x).map signS) := by
  have all : ∀ v, v ∈ acc.toList → ∃ x t, v = Value.str x t := fun v hv => by
    obtain ⟨j, hj, e⟩ := List.getElem_of_mem hv
    obtain ⟨c, u, _, h2⟩ := h.2 j v (by rw [← Array.getElem?_toList, List.getElem?_eq_getElem hj, e])
    exact ⟨_, _, h2⟩
  have e : acc.toList.map strOf = (tl x).map signS := by
    refine List.ext_getElem? fun j => ?_
    rw [List.getElem?_map, List.getElem?_map]
    by_cases hj : j < acc.size
    · have hv : acc[j]? = some acc[j] := Array.getElem?_eq_getElem hj
      obtain ⟨c, u, h1, h2⟩ := h.2 j _ hv
      rw [Array.getElem?_toList, hv, h2]
      have : (tl x)[j]? = some c := by rw [← h1]; exact Array.getElem?_toList
      rw [this]
      rfl
    · have hx : x.cps.size ≤ j := by rw [← h.1]; omega
      rw [List.getElem?_eq_none (by rw [Array.length_toList]; omega), List.getElem?_eq_none (by show x.cps.toList.length ≤ j; rw [Array.length_toList]; exact hx)]
      rfl
  rw [← e]
  exact strsAre_map _ all
theorem sorted_text {x : Str} {t : Tok} {Q : Value → Shared → Prop} (hh : A.handled = none) (few : (tl x).length < 64)
    (q : ∀ (s1 s' : Shared) (p : Addr) (out : Array Value) (c : Nat) (ss : List Str), (∀ b o, s.heap.get? b = some o → s1.heap.get? b = some o) → s1.gens = s.gens → s1.os = s.os → (∀ b o, s1.heap.get? b = some o → s'.heap.get? b = some o) → s'.gens = s.gens → s'.os = s.os → s1.heap.objs.size ≤ p → s'.heap.get? p = some (seqObj "list" out c) → StrsAre out.toList ss → ss.Perm ((tl x).map signS) → sortedS ss = true → Q (.ref p) s') :
    wpAny (model P w) A (call (.builtin "sorted") [.str x t]) Q E s := by
  refine Calls.call_function_entry kind_sorted plain_sorted entry_sorted (args_sorted1 _) ?_
  unfold Builtin.«sorted»
  refine wpAny_bind (m := checkCount "sorted" 1 1 _) (wpAny_pure ?_)
  have hsz : x.cps.size < 64 := by rw [← Array.length_toList]; exact few
  refine wpAny_bind (wpAny_collect_str (A := A.in1) hh x t (fun s1 acc k1 g1 d1 o1 hacc => ?_) (by rw [sizeLine_eq]; omega))
  have hS := signs_strs hacc
  have hl : acc.toList.length = (tl x).length := by rw [Array.length_toList, hacc.1]; exact (Array.length_toList ..).symm
  generalize acc.toList = vs at hS hl ⊢
  refine wpAny_bind (wpAny_newList ?_ (by rw [hl, sizeLine_eq]; omega))
  have hoL : (s1.heap.push (seqObj "list" vs.toArray 0)).get? s1.heap.objs.size = some (seqObj "list" vs.toArray 0) := Heap.get?_push_size _ rfl
  refine wpAny_bind (wpAny_holding (wpAny_call_entry slot_list_sort ⟨_, hoL, rfl⟩ entry_list_sort (list_sort_treeK strKind_oneLt hoL hS.keysOf (fun v₁ v₂ rest e => keyKind_strs (by rw [← e]; exact hS)) (by omega) fun st' a1 a2 => ⟨_, rfl, ?_⟩) (args_list_sort _)))
  obtain ⟨ss', h1, h2, h3⟩ := sorted_out_str hS a1 a2
  obtain ⟨c, hc⟩ := sortedHeap_at (vs := vs) (out := (arrOf st').map (·.2)) hoL
  refine wpAny_pure ⟨_, rfl, q s1 _ s1.heap.objs.size _ c ss' k1 g1 o1 (fun b u e1 => ?_) g1 o1 (Nat.le_refl _) hc h1 h2 h3⟩
  have lt := Heap.lt_size e1
  show (sortedHeap (s1.heap.push (seqObj "list" vs.toArray 0)) s1.heap.objs.size vs _).get? b = some u
  rw [sortedHeap_old (Nat.ne_of_lt lt) (by rw [size_push']; exact Nat.lt_succ_of_lt lt)]
  exact Heap.get?_push_of_some _ e1
end
section
variable {X : Cx} {P : Program} {w : World} {K : PySem.W.Frag} {mg : Str → Option Value} {base : Heap} {N : List Str} {sc : Scope} {k : Nat} {σ : L2.St} {H : Hp} {Q : VK}
theorem c_sortedT {x : Str} (C : Ctx X P w K mg base N sc k) (few : (tl x).length < 64) (h : ∀ p H' ss, H p = none → Ex H H' → H' p = some (.lst (ss.map V.str)) → ss.Perm ((tl x).map signS) → sortedS ss = true → Q (.ref p) H') : zC X (.builtin "sorted") [.str x] H Q := by
  unfold zC
  intro ps s σ us I r
  obtain ⟨u, rfl, ru⟩ := r.one
  obtain ⟨t, rfl⟩ := ru
  have hh : X.A.handled = none := I.ok.hd C.calm
  refine sorted_text hh few fun s1 s' p out c ss k1 gg1 oo1 kp g o lp hg hi pm hs => ?_
  obtain ⟨h1, g1, d1, t1, o1⟩ := s1
  obtain rfl : o1 = s.os := oo1
  obtain rfl : g1 = s.gens := gg1
  have I1 : L2.Inv X ps σ H ⟨h1, s.gens, d1, t1, s.os⟩ := I.call (h' := h1) (g' := s.gens) (d' := d1) (t' := t1) (ch := []) (Un.kept k1) (I.hok.kept k1) I.bare (fun _ z => by cases z)
  have hn : H p = none := I1.hok.fresh lp
  obtain ⟨h2, g2, d2, t2, o2⟩ := s'
  obtain rfl : o2 = s.os := o
  obtain rfl : g2 = s.gens := g
  have J : L2.Inv X ps σ (upd H p (.lst (ss.map V.str))) ⟨h2, s.gens, d2, t2, s.os⟩ :=
    Inv.call (s := ⟨h1, s.gens, d1, t1, s.os⟩) (h' := h2) (g' := s.gens) (d' := d2) (t' := t2) (ch := []) I1 (Un.laid kp lp hn) (I1.hok.laid kp lp ⟨by rw [List.length_map, pm.length_eq, List.length_map, sizeLine_eq]; omega, out.toList, c, vals_of_strs hi, hg⟩) I1.bare (fun _ z => by cases z)
  exact ⟨.ref p, _, J, rfl, h p _ ss hn (Evl.Ex.new hn) upd_same pm hs⟩
end
end Z

/-! classes with the operators + and * that they have from another one -/
namespace Z
open PySem L2
structure OpB (K : PySem.W.Frag) (D C : Addr) : Prop where
  add : OpC K C .Add
  mul : OpC K C .Mult
  fa : OwnF K C (He.ma K D "__add__") "__add__"
  fm : OwnF K C (He.ma K D "__mul__") "__mul__"
  int : PySem.W.subIn K (.type "int") (.ref C) = some false
theorem opB_ok {K : PySem.W.Frag} {D C : Addr} (h : opB K D C = true) : OpB K D C := by
  obtain ⟨h1, h⟩ := He.ba h
  obtain ⟨h2, h⟩ := He.ba h
  obtain ⟨h3, h⟩ := He.ba h
  obtain ⟨h4, h⟩ := He.ba h
  obtain ⟨h5, h⟩ := He.ba h
  obtain ⟨h6, h⟩ := He.ba h
  obtain ⟨h7, h8⟩ := He.ba h
  have d1 : PySem.dunderR (Operator.Add).info.2 = ("__radd__" : Str) := by decide +kernel
  have d2 : PySem.dunderR (Operator.Mult).info.2 = ("__rmul__" : Str) := by decide +kernel
  have d3 : PySem.dunder (Operator.Add).info.2 = ("__add__" : Str) := by decide +kernel
  have d4 : PySem.dunder (Operator.Mult).info.2 = ("__mul__" : Str) := by decide +kernel
  exact ⟨⟨h1, by rw [d1]; exact He.eqO_ok h2, _, by rw [d3]; exact He.eqO_ok h4⟩, ⟨h1, by rw [d2]; exact He.eqO_ok h3, _, by rw [d4]; exact He.eqO_ok h6⟩, ⟨He.eqO_ok h4, h5⟩, ⟨He.eqO_ok h6, h7⟩, of_decide_eq_true h8⟩
theorem sibB_ok {K : PySem.W.Frag} {l : List Addr} (h : sibB K l = true) : ∀ C ∈ l, ∀ D ∈ l, C ≠ D → PySem.W.subIn K (.ref D) (.ref C) = some false := fun C hC D hD hn => by
  have := List.all_eq_true.mp (List.all_eq_true.mp h C hC) D hD
  rw [Bool.or_eq_true, decide_eq_true_eq, decide_eq_true_eq] at this
  exact this.resolve_left hn
theorem intB_ok {K : PySem.W.Frag} (h : intB K = true) : (∃ fo, PySem.W.findIn K (.type "int") (PySem.dunder (Operator.Mult).info.2) = some fo) ∧ ∃ ro, PySem.W.findIn K (.type "int") (PySem.dunderR (Operator.Mult).info.2) = some ro := by
  obtain ⟨h1, h2⟩ := He.ba h
  have d2 : PySem.dunderR (Operator.Mult).info.2 = ("__rmul__" : Str) := by decide +kernel
  have d4 : PySem.dunder (Operator.Mult).info.2 = ("__mul__" : Str) := by decide +kernel
  rw [d2, d4]
  exact ⟨Option.isSome_iff_exists.mp h1, Option.isSome_iff_exists.mp h2⟩
theorem CalM.up {P : Program} {w : World} {K : PySem.W.Frag} {mg : Str → Option Value} {base : Heap} {CX : CXT} {CA : Addr} {m : Str} {j j' n : Nat} {sp sp' : Sp} (c : CalM P w K mg base CX CA m j n sp) (hj : j ≤ j') (h : ∀ vs H Q E, sp' vs H Q E → sp vs H Q E) : CalM P w K mg base CX CA m j' n sp' := by
  obtain ⟨f, fd, ps, F, h1, h2, h3, h4⟩ := c.ex
  exact ⟨f, fd, ps, (F.mono hj).imp h, h1, h2, h3, h4⟩
end Z

/-! starred items of a display; x(), x a class whose __init__ takes any number of values -/
namespace Z
open PySem L2
section
variable {X : Cx} {σ : St} {H : Hp}
theorem a_star {QA : List V → Hp → Prop} {e : Expr} {es : List Expr} {p : Pos} (h : zE X e σ H fun y H1 => ∃ a xs, y = .ref a ∧ (SqT X.K H1 a xs ∨ SqL X.K H1 a xs) ∧ zA X es σ H1 fun ys H2 => QA (xs ++ ys) H2)
    (hs : starEach (.Starred e p :: es) X.env = (true, eval e X.env) :: starEach es X.env := by rfl) : zA X (.Starred e p :: es) σ H QA := zA_of (StX.pa_star (zE_ok e) (zA_ok es) hs) h
/-- the head of a display whose rest has stars -/
theorem a_consS {QA : List V → Hp → Prop} {e : Expr} {es : List Expr} (h : zE X e σ H fun x H1 => zA X es σ H1 fun xs H2 => QA (x :: xs) H2) (hs : starEach (e :: es) X.env = (false, eval e X.env) :: starEach es X.env := by rfl) : zA X (e :: es) σ H QA := a_cons h hs
end
section
variable {X : Cx} {P : Program} {w : World} {K : PySem.W.Frag} {mg : Str → Option Value} {base : Heap} {N : List Str} {sc : Scope} {k : Nat} {σ : St} {H : Hp} {Q : VK} {CX : CXT} {CA : Addr} {j : Nat} {sp : Sp} {E : XK}
/-- x(), x the class at CA -/
theorem e_cls0 {x : Str} {p pos : Pos} (C : Ctx X P w K mg base N sc k) (c : CalC P w K mg base CX CA j sp) (g : mg x = some (.ref CA)) (hj : j + 1 ≤ k) (hx : Passes CX X E)
    (h : ∀ o dx, H o = none → H dx = none → dx ≠ o → sp [.ref o] (upd (upd H dx (.own o)) o (.ins CA dx [])) (fun v H2 => v = .non ∧ Q (.ref o) H2) E)
    (hg : gloB sc x = true := by decide +kernel) (hdb : (x == ("__debug__" : Str)) = false := by decide) :
    zE X (.Call (.Name x p) [] [] pos) σ H Q := by
  obtain ⟨f, M, F⟩ := c.ex
  have hgl := C.gl hg
  obtain ⟨rfl, rfl, rfl, rfl, rfl, _, _, _, hr, _, _⟩ := C
  unfold zE
  intro ps s I
  refine wpAny_Call_Name_kw (ld_glob I hgl g ?_ hdb)
  exact PySem.W.callWith_K0 I.kIn M.kp (StX.run_makeR M F (hr.mono hj) hx I .nil h)
end
end Z

/-! a lambda handed to a def, where more tables of code objects are known -/
namespace Z
open PySem L2
theorem e_lamG {X : Cx} {P : Program} {w : World} {K : PySem.W.Frag} {mg : Str → Option Value} {base : Heap} {N : List Str} {sc : Scope} {k j : Nat} {σ : St} {H : Hp} {Q : VK} {c T : Addr} {x : Str} {TT : (XK → Hp → VK → Prop) → Hp → VK → Prop} {params : Arguments} {body : Expr} {scope : Scope} {p lpos pos : Pos} (Ts : List (Addr × Str))
    (C : Ctx X P w K mg base N sc k) (L : LamT X c T) (G : Gets P w K mg base x j TT) (hj : j + 2 ≤ k) (hl : LamX.lamSB sc scope = true) (hm : (T, X.env.qual ++ "<lambda>") ∈ Ts) (hu : ∀ p ∈ Ts, p.1 = T → p.2 = X.env.qual ++ "<lambda>") (hT : LamX.Tabs Ts H)
    (h : ∀ H1, LamX.ExtN H H1 → LamX.Tabs Ts H1 → TT (fun E H' Q' => zL P w K mg base N scope j body E σ H' Q') H1 Q)
    (hdef : defaultsOf params X.env = ([], []) := by rfl)
    (hbind : ∀ (q : Str) (cl : List (Str × Addr)) (pm cv ctv : Value), bindArgs (PySem.W.kla_fn "<lambda>" q params body scope cl pm cv ctv) ⟨[], []⟩ = pure [] := by intros; rfl)
    (hg : gloB sc x = true := by decide +kernel) (hdb : (x == ("__debug__" : Str)) = false := by decide) : zE X (.Call (.Name x p) [.Lambda params body scope lpos] [] pos) σ H Q := by
  obtain ⟨g, fd, pg, bg, sg, a, Ng, F, gm, hb, S, hN, hv, hd, hcd, GT⟩ := G.ex
  obtain ⟨oc, od, dV, kV, doc, pm, an, cdv, ct, osl, rfl, lk, hcg, _, _⟩ := F.ex
  have hgl := C.gl hg
  obtain ⟨rfl, rfl, rfl, rfl, rfl, rfl, rfl, hc, hr, _, nd⟩ := C
  refine zE_of (LamX.pe_lamcall (T := Ts) (t := fun E => zL X.prog X.w X.K X.mg X.base X.N scope j body E) hgl gm F.kp lk hcg hb S hN hv (GT X rfl rfl rfl rfl rfl (hr.mono (by omega)) cdv _) L.tb L.code hm hu (hr.mono hj) (LamX.lamS_by hl) hdef hbind (fun A outer s H E f c' hr2 => ?_) hdb hd hcd) ⟨hT, h⟩
  refine ⟨fun pins s' σ' H' Q' I q => (zE_ok body).run pins s' σ' H' Q' I (q _ ⟨rfl, rfl, rfl, rfl, rfl, rfl, rfl, rfl, hr2, passes_of rfl, nd⟩ (takes_of rfl rfl rfl rfl))⟩
/-- x(), x a def of the module that raises nothing -/
theorem e_call0 {X : Cx} {P : Program} {w : World} {K : PySem.W.Frag} {mg : Str → Option Value} {base : Heap} {N : List Str} {sc : Scope} {k j n : Nat} {σ : St} {H : Hp} {Q : VK} {x : Str} {sp : Sp} {p pos : Pos} (C : Ctx X P w K mg base N sc k) (c : Cal P w K mg base CX0 x j n sp) (hj : j ≤ k) (h : sp [] H Q E0) (hg : gloB sc x = true := by decide +kernel) (hdb : (x == ("__debug__" : Str)) = false := by decide) : zE X (.Call (.Name x p) [] [] pos) σ H Q := by
  obtain ⟨f, fd, ps, F, gm, hk, hb, hl⟩ := c.ex
  have hgl := C.gl hg
  obtain ⟨rfl, rfl, rfl, rfl, rfl, _, _, _, hr, _, _⟩ := C
  exact zE_of (pe_call0 F (hr.mono hj) hgl gm hk hb .nil pass0 hdb) h
end Z

/-! lambdas kept: only the table of their code changes -/
namespace Z
open PySem L2
section
variable {X : Cx} {pins : List (Addr × Obj)} {σ : St} {H : Hp} {s : Shared} {c P : Addr} {params : Arguments} {body : Expr} {scope : Scope} {pos : Pos} {ln : Nat} {E : Value → Shared → Prop} {Q : Value → Shared → Prop} {qn : Str} {dv : Option Addr}
theorem lam_invX (I : Inv X pins σ H s) (TB : LamX.TabB X.base X.mg c P) (hcode : X.env.code = .ref c) (hT : LamX.TabS H P qn) (hfree : ∀ y ∈ scope.names, y.2 = .free → ∃ c, X.env.cells.lookup y.1 = some c)
    (h : ∀ (f c' : Addr) (H1 : Hp) (s' : Shared), Inv X pins σ H1 s' → Z.Xb P H H1 → (∀ b, H1 b = none → H b = none) → LamX.TabS H1 P qn → H f = none → H1 f = some (LamO f ⟨qn, params, body, scope, cloFrom X.env.cells scope.names [], c', dv⟩) → H1 c' = some (LamX.CodeO c' qn) → Q (.ref f) s') :
    wpAny (model X.prog X.w) X.A (makeTail "<lambda>" qn params (.expr body) scope X.env (dvV dv) .none none pos ln) Q E s := by
  obtain ⟨ps, hP, ht, ha⟩ := hT
  have bP : s.heap.BuiltinsAt X.mg P := TB.bm.keeps I.bk
  have hP' : s.heap.get? P = some { cls := .none, data := .fields ps } := I.hok P _ hP
  have kn : ∀ (H1 : Hp) (s1 : Shared) (F : LF) (pm ctv : Value) (tk : Nat), Inv X pins σ H1 s1 → Inv X pins σ (upd H1 s1.heap.objs.size (LamO s1.heap.objs.size F)) { s1 with heap := s1.heap.push { cls := .type "function", data := .func (F.fd pm ctv) }, toks := tk } := fun H1 s1 F pm ctv tk I1 =>
    I1.laid (fun b u e => Heap.get?_push_of_some _ e) (Nat.le_refl _) (lamO_ok (Heap.get?_push_size _ rfl))
  cases hc : codeAmong pos ps.toList with
  | none =>
    refine tail_new (mg := X.mg) (c := c) (P := P) (ps := ps) (closure_ok hfree) I.ok.glob (I.mod.glob.keeps I.bk) hcode (TB.code.keeps I.bk) hP' ht hc TB.gP bP fun c' ctv h' tk hx h1 h2 h3 htb => ?_
    obtain ⟨c2, oc, vs, t, e2, hoc, hd, hv⟩ := h3
    cases e2
    have nC : H c' = none := I.hok.fresh h1
    have I1 := LamX.inv_table (t' := tk) (more := #[rawInt pos.line, rawInt pos.col, .ref c']) (h' := h') (q := qn) I hP (fun b o hb e => hx b o hb e) htb h1 ⟨oc, vs, t, hoc, hd, hv⟩
    obtain ⟨H2, hH2⟩ : ∃ H2, upd (upd H P (.tbl (ps ++ #[rawInt pos.line, rawInt pos.col, .ref c']))) c' (LamX.CodeO c' qn) = H2 := ⟨_, rfl⟩
    have hE : Z.Xb P H H2 := fun b o n e => by
      rw [← hH2, upd_ne (ne_of_none e nC), upd_ne n]
      exact e
    have hN : ∀ b, H2 b = none → H b = none := fun b e => by
      rw [← hH2] at e
      unfold upd at e
      split at e
      · cases e
      · split at e
        · cases e
        · exact e
    have hc2 : H2 c' = some (LamX.CodeO c' qn) := by rw [← hH2]; exact upd_same
    rw [hH2] at I1
    have eL : (ps ++ #[rawInt pos.line, rawInt pos.col, .ref c']).toList = ps.toList ++ [rawInt pos.line, rawInt pos.col, .ref c'] := by simp
    have T2 : LamX.TabS H2 P qn := by
      refine ⟨_, by rw [← hH2, upd_ne (ne_of_none hP nC), upd_same], by rw [eL]; exact PySem.TriplesOk_snoc _ _ _ _ ht, fun p' cv hcv => ?_⟩
      rw [eL] at hcv
      rcases LamX.among_app _ ht hcv with z | z
      · obtain ⟨c0, q1, q2⟩ := ha p' cv z
        exact ⟨c0, q1, hE _ _ (fun z => by rw [z, hP] at q2; exact LamX.codeO_ne (ps := ps) (Option.some.inj q2).symm) q2⟩
      · exact ⟨c', z, hc2⟩
    have I2 := kn H2 { s with heap := h', toks := tk } ⟨qn, params, body, scope, cloFrom X.env.cells scope.names [], c', dv⟩ ((X.mg "__name__").getD .none) ctv tk I1
    have nF : H2 h'.objs.size = none := I1.hok.fresh (Nat.le_refl _)
    have up : ∀ b o, H2 b = some o → upd H2 h'.objs.size (LamO h'.objs.size ⟨qn, params, body, scope, cloFrom X.env.cells scope.names [], c', dv⟩) b = some o := fun b o e => (upd_ne (ne_of_none e nF)).trans e
    exact h h'.objs.size c' _ _ I2 (fun b o n e => up b o (hE b o n e)) (fun b e => hN b (by
      unfold upd at e
      split at e
      · cases e
      · exact e)) (tabS_ext T2 up) (hN _ nF) upd_same (up _ _ hc2)
  | some cv =>
    obtain ⟨c', e, hco⟩ := ha pos cv hc
    subst e
    refine tail_hit (mg := X.mg) (c := c) (P := P) (ps := ps) (closure_ok hfree) I.ok.glob (I.mod.glob.keeps I.bk) hcode (TB.code.keeps I.bk) hP' ht hc bP fun ctv h' tk hx hsz => ?_
    have I1 : Inv X pins σ H { s with heap := h', toks := tk } := I.kept hx
    have nF : H h'.objs.size = none := I1.hok.fresh (Nat.le_refl _)
    have I2 := kn H { s with heap := h', toks := tk } ⟨qn, params, body, scope, cloFrom X.env.cells scope.names [], c', dv⟩ ((X.mg "__name__").getD .none) ctv tk I1
    have up : ∀ b o, H b = some o → upd H h'.objs.size (LamO h'.objs.size ⟨qn, params, body, scope, cloFrom X.env.cells scope.names [], c', dv⟩) b = some o := fun b o e => (upd_ne (ne_of_none e nF)).trans e
    exact h h'.objs.size c' _ _ I2 (fun b o n e => up b o e) (fun b e => by
      unfold upd at e
      split at e
      · cases e
      · exact e) (tabS_ext ⟨ps, hP, ht, ha⟩ up) nF upd_same (up _ _ hco)
end
section
variable {X : Cx} {P : Program} {w : World} {K : PySem.W.Frag} {mg : Str → Option Value} {base : Heap} {N : List Str} {sc : Scope} {k : Nat} {σ : St} {H : Hp} {Q : VK} {c T : Addr} {params : Arguments} {body : Expr} {scope : Scope} {pos : Pos}
/-- lambda: body, as a value -/
theorem e_lamVX (L : LamT X c T) (hT : LamX.TabS H T (X.env.qual ++ "<lambda>")) (hl : LamX.lamSB sc scope = true) (C : Ctx X P w K mg base N sc k)
    (h : ∀ (f c' : Addr) (H1 : Hp), Z.Xb T H H1 → (∀ b, H1 b = none → H b = none) → LamX.TabS H1 T (X.env.qual ++ "<lambda>") → H f = none → H1 f = some (LamO f ⟨X.env.qual ++ "<lambda>", params, body, scope, cloFrom X.env.cells scope.names [], c', none⟩) → H1 c' = some (LamX.CodeO c' (X.env.qual ++ "<lambda>")) → Q (.ref f) H1)
    (hdef : defaultsOf params X.env = ([], []) := by rfl) : zE X (.Lambda params body scope pos) σ H Q := by
  unfold zE
  intro ps s I
  have LS : LamX.LamS X.env.scope scope := by rw [C.scp]; exact LamX.lamS_by hl
  refine PySem.W.kla_eval hdef ?_
  rw [makeFunction_eq]
  simp only [List.zip_nil_right, List.filterMap_nil, List.isEmpty_nil, if_true, pure_bind]
  exact lam_invX (dv := none) I L.tb L.code hT (LS.has I.ok) fun f c' H1 s' J e1 n1 t1 nf hf hc => ⟨.ref f, H1, J, rfl, h f c' H1 e1 n1 t1 nf hf hc⟩
/-- lambda x=i: body, as a value -/
theorem e_lamDX {i : Int} {jj : Nat} {pd : Pos} (L : LamT X c T) (hT : LamX.TabS H T (X.env.qual ++ "<lambda>")) (hl : ∀ y ∈ scope.names, y.2 = .free → sc.names.lookup y.1 = some .cell ∨ sc.names.lookup y.1 = some .free) (C : Ctx X P w K mg base N sc k)
    (h : ∀ (f c' tp : Addr) (H1 : Hp), Z.Xb T H H1 → (∀ b, H1 b = none → H b = none) → LamX.TabS H1 T (X.env.qual ++ "<lambda>") → H f = none → H1 f = some (LamO f ⟨X.env.qual ++ "<lambda>", params, body, scope, cloFrom X.env.cells scope.names [], c', some tp⟩) → H1 c' = some (LamX.CodeO c' (X.env.qual ++ "<lambda>")) → H1 tp = some (.tup [.int i]) → Q (.ref f) H1)
    (hdef : defaultsOf params X.env = ([eval (.Constant (.int i) jj pd) X.env], []) := by rfl) : zE X (.Lambda params body scope pos) σ H Q := by
  unfold zE
  intro ps s I
  have hfree : ∀ y ∈ scope.names, y.2 = .free → ∃ c, X.env.cells.lookup y.1 = some c := fun y hy e => by
    refine I.ok.has y.1 ?_
    show X.env.scope.names.lookup y.1 = _ ∨ X.env.scope.names.lookup y.1 = _
    rw [C.scp]
    exact hl y hy e
  rw [arm_eval_Lambda, hdef]
  refine wpAny_bind (wpAny_bind (wpAny_Constant_int ?_))
  refine wpAny_bind (wpAny_holding (wpAny_pure (wpAny_pure ?_)))
  refine wpAny_bind (wpAny_holding (wpAny_pure ?_))
  rw [makeFunction_eq]
  simp only [List.zip_nil_right, List.filterMap_nil, List.isEmpty_nil, List.isEmpty_cons, Bool.false_eq_true, if_false, if_true, pure_bind]
  refine wpAny_bind (wpAny_newTextTuple ?_)
  obtain ⟨hh, g, d, t, os⟩ := s
  have I0 : Inv X ps σ H ⟨hh, g, d, t + 1, os⟩ := I.tok (t + 1)
  have hget : (hh.push { cls := .type "tuple", data := .seq ([Value.int i t] : List Value).toArray }).get? hh.objs.size = some { cls := .type "tuple", data := .seq ([Value.int i t] : List Value).toArray } := Heap.get?_push_size _ rfl
  have nT : H hh.objs.size = none := I.hok.fresh (Nat.le_refl _)
  have I1 : Inv X ps σ (upd H hh.objs.size (.tup [.int i])) ⟨hh.push { cls := .type "tuple", data := .seq ([Value.int i t] : List Value).toArray }, g, d, t + 1, os⟩ :=
    I0.laid (t' := t + 1) (a := hh.objs.size) (o := .tup [.int i]) (fun b u e => Heap.get?_push_of_some _ e) (Nat.le_refl _) ⟨by show 1 ≤ sizeLine; decide, [.int i t], .cons ⟨t, rfl⟩ .nil, ⟨_, hget, rfl, _, rfl⟩⟩
  have e0 : Ex H (upd H hh.objs.size (.tup [.int i])) := Evl.Ex.new nT
  exact lam_invX (dv := some hh.objs.size) I1 L.tb L.code (tabS_ext hT e0) hfree fun f c' H1 s' J e1 n1 t1 nf hf hc => ⟨.ref f, H1, J, rfl, h f c' _ H1 (fun b o n e => e1 b o n (e0 b o e)) (fun b e => by
    have := n1 b e
    unfold upd at this
    split at this
    · cases this
    · exact this) t1 (by
    have := nf
    unfold upd at this
    split at this
    · cases this
    · exact this) hf hc (e1 _ _ (fun z => by obtain ⟨ps, hP, _⟩ := hT; rw [← z, nT] at hP; cases hP) upd_same)⟩
end
theorem xb_extN {T : Addr} {q : Str} {H H1 : Hp} (t : LamX.TabS H T q) (x : Z.Xb T H H1) : LamX.ExtN H H1 := fun b o e n => x b o (fun z => by
  obtain ⟨ps, hP, _⟩ := t
  rw [z, hP] at e
  exact n ps (Option.some.inj e).symm) e
theorem tabS_xb {T T2 : Addr} {q q2 : Str} {H H1 : Hp} (t : LamX.TabS H T q) (t2 : LamX.TabS H T2 q2) (hne : T ≠ T2) (x : Z.Xb T2 H H1) : LamX.TabS H1 T q := by
  obtain ⟨ps, h1, h2, h3⟩ := t
  refine ⟨ps, x _ _ hne h1, h2, fun pos cv hc => ?_⟩
  obtain ⟨c, e1, e2⟩ := h3 pos cv hc
  refine ⟨c, e1, x _ _ (fun z => ?_) e2⟩
  obtain ⟨ps2, g1, _⟩ := t2
  rw [z, g1] at e2
  exact LamX.codeO_ne (ps := ps2) (Option.some.inj e2).symm
/-- an empty tuple of the head -/
theorem etB_ok {K : PySem.W.Frag} {H : Hp} {a : Addr} (h : etB K a = true) : SqT K H a [] := by
  unfold etB at h
  split at h
  · rename_i o ho
    split at h
    · rename_i t its n h1 h2
      simp only [Bool.and_eq_true, decide_eq_true_eq] at h
      refine .inr ⟨o, its, n, ho, by rw [h1, h.1], h2, by omega, ?_⟩
      have : its.toList = [] := by
        have h3 := h.2
        cases its with
        | mk l => cases l with
          | nil => rfl
          | cons a r => simp at h3
      rw [this]
      exact .nil
    · cases h
  · cases h
end Z

/-! texts taken apart and put together: split, partition, isdigit, int(text), f-strings -/
namespace Z
open PySem L2
section
variable {X : Cx} {σ : St} {H : Hp} {Q : VK} {o e e1 e2 e3 : Expr} {apos cpos : Pos}
/-- x.split(sep) -/
theorem e_split (h : zE X o σ H fun v H1 => ∃ z : Str, v = .str z ∧ zE X e σ H1 fun y H2 => ∃ s : Str, y = .str s ∧ (s.length == 0) = false ∧ z.length + 2 ≤ sizeLine ∧ ∀ p H3, H2 p = none → Ex H2 H3 → H3 p = some (.lst ((Txt.split z s).map V.str)) → Q (.ref p) H3)
    (hs : starEach [e] X.env = [(false, eval e X.env)] := by rfl) (hb : attributeBase o "split" X.env (eval o X.env) = eval o X.env := by rfl) (hl : (apos.endLine == cpos.line) = true := by rfl) : zE X (.Call (.Attribute o "split" apos) [e] [] cpos) σ H Q :=
  zE_of (pe_split (zE_ok o) (zE_ok e) hs hb hl) (zE_mono h fun v H1 ⟨z, e1, h1⟩ => ⟨⟨z, e1⟩, zE_mono h1 fun y H2 ⟨s, e2, h2, h3, h4⟩ => ⟨z, s, e1, by rw [e2], h2, h3, fun p hp => h4 p _ hp (Evl.Ex.new hp) upd_same⟩⟩)
/-- x.partition(sep) -/
theorem e_partition (h : zE X o σ H fun v H1 => ∃ z : Str, v = .str z ∧ zE X e σ H1 fun y H2 => ∃ s : Str, y = .str s ∧ (s.length == 0) = false ∧ z.length ≤ sizeLine ∧ ∀ p H3, H2 p = none → Ex H2 H3 → H3 p = some (.tup [.str (Txt.partition z s).1, .str (Txt.partition z s).2.1, .str (Txt.partition z s).2.2]) → Q (.ref p) H3)
    (hs : starEach [e] X.env = [(false, eval e X.env)] := by rfl) (hb : attributeBase o "partition" X.env (eval o X.env) = eval o X.env := by rfl) (hl : (apos.endLine == cpos.line) = true := by rfl) : zE X (.Call (.Attribute o "partition" apos) [e] [] cpos) σ H Q :=
  zE_of (pe_partition (zE_ok o) (zE_ok e) hs hb hl) (zE_mono h fun v H1 ⟨z, e1, h1⟩ => ⟨⟨z, e1⟩, zE_mono h1 fun y H2 ⟨s, e2, h2, h3, h4⟩ => ⟨z, s, e1, by rw [e2], h2, h3, fun p hp => h4 p _ hp (Evl.Ex.new hp) upd_same⟩⟩)
/-- x.isdigit() -/
theorem e_isdigit (h : zE X o σ H fun v H1 => ∃ z : Str, v = .str z ∧ Q (.bl (Txt.isdigit z)) H1) (hb : attributeBase o "isdigit" X.env (eval o X.env) = eval o X.env := by rfl) (hl : (apos.endLine == cpos.line) = true := by rfl) : zE X (.Call (.Attribute o "isdigit" apos) [] [] cpos) σ H Q :=
  zE_of (pe_m0 PySem.F.slot_str_isdigit PySem.F.type_str_isdigit mt_isdigit (zE_ok o) hb hl) (zE_mono h fun v H1 ⟨z, e1, h1⟩ => ⟨⟨z, e1⟩, z, e1, rfl, trivial, h1⟩)
/-- int(text) -/
theorem c_intS {z : Str} {n : Int} (hn : PySem.intText? z = some n) (hz : z.length ≤ 640) (h : Q (.int n) H) : zC X (.type "int") [.str z] H Q := zC_of call_int_str ⟨z, n, rfl, hn, hz, h⟩
/-- what stands in {..}: a text or a small number -/
inductive Fv : V → Str → Prop where
  | str (z : Str) : Fv (.str z) z
  | nat (n : Nat) (h : n < 1000000) : Fv (.int n) (SX.S (TL.numL n))
theorem fv_ok {x : V} {z : Str} {R : Str → Prop} (f : Fv x z) (hz : z.length ≤ sizeLine) (q : R z) : (∃ y : Str, x = .str y ∧ y.length ≤ sizeLine ∧ R y) ∨ ∃ i : Int, x = .int i ∧ i.natAbs.log2 < 1920 ∧ R (toString i) := by
  cases f with
  | str z => exact .inl ⟨z, rfl, hz, q⟩
  | nat n h => exact .inr ⟨n, rfl, small_log h, by rw [SX.num_S]; exact q⟩
theorem empty_app (z : Str) : Str.empty ++ z = z := ext_tl (by rw [tl_app]; rfl)
/-- f'{a}..' -/
theorem e_jsA {s : Str} {j : Nat} {q p pos : Pos} (h : zE X e1 σ H fun x H1 => ∃ z, Fv x z ∧ z.length + s.length ≤ 10000000 ∧ Q (.str (z ++ s)) H1) : zE X (.JoinedStr [.FormattedValue e1 (-1) none q, .Constant (.str s) j p] pos) σ H Q := by
  have L : (10000000 : Nat) ≤ sizeLine := by decide
  refine zE_of (pe_joined (.cons (pe_fmt (zE_ok e1)) (.cons (zE_ok (.Constant (.str s) j p)) .nil))) ?_
  refine zE_mono h fun x H1 ⟨z, f, hz, h1⟩ => fv_ok f (by omega) ⟨z, rfl, by rw [empty_app]; omega, ?_⟩
  rw [empty_app]
  exact e_str ⟨s, rfl, by rw [slen]; omega, h1⟩
/-- f'..{a}' -/
theorem e_jsB {s : Str} {j : Nat} {q p pos : Pos} (h : zE X e1 σ H fun x H1 => ∃ z, Fv x z ∧ z.length + s.length ≤ 10000000 ∧ Q (.str (s ++ z)) H1) (hs : s.length ≤ 1000) : zE X (.JoinedStr [.Constant (.str s) j p, .FormattedValue e1 (-1) none q] pos) σ H Q := by
  have L : (10000000 : Nat) ≤ sizeLine := by decide
  refine zE_of (pe_joined (.cons (zE_ok (.Constant (.str s) j p)) (.cons (pe_fmt (zE_ok e1)) .nil))) ?_
  refine e_str ⟨s, rfl, by rw [empty_app]; omega, ?_⟩
  rw [empty_app]
  exact zE_mono h fun x H1 ⟨z, f, hz, h1⟩ => fv_ok f (by omega) ⟨z, rfl, by rw [slen]; omega, h1⟩
/-- f'..{a}..{b}..{c}' -/
theorem e_js3 {s1 s2 s3 : Str} {j1 j2 j3 : Nat} {q1 q2 q3 p1 p2 p3 pos : Pos} (h : zE X e1 σ H fun x H1 => ∃ z1, Fv x z1 ∧ z1.length ≤ 1000000 ∧ zE X e2 σ H1 fun x H2 => ∃ z2, Fv x z2 ∧ z2.length ≤ 1000000 ∧ zE X e3 σ H2 fun x H3 => ∃ z3, Fv x z3 ∧ z3.length ≤ 1000000 ∧ Q (.str (s1 ++ z1 ++ s2 ++ z2 ++ s3 ++ z3)) H3)
    (hs : s1.length + s2.length + s3.length ≤ 1000) : zE X (.JoinedStr [.Constant (.str s1) j1 p1, .FormattedValue e1 (-1) none q1, .Constant (.str s2) j2 p2, .FormattedValue e2 (-1) none q2, .Constant (.str s3) j3 p3, .FormattedValue e3 (-1) none q3] pos) σ H Q := by
  have L : (10000000 : Nat) ≤ sizeLine := by decide
  refine zE_of (pe_joined (.cons (zE_ok (.Constant (.str s1) j1 p1)) (.cons (pe_fmt (zE_ok e1)) (.cons (zE_ok (.Constant (.str s2) j2 p2)) (.cons (pe_fmt (zE_ok e2)) (.cons (zE_ok (.Constant (.str s3) j3 p3)) (.cons (pe_fmt (zE_ok e3)) .nil))))))) ?_
  refine e_str ⟨s1, rfl, by rw [empty_app]; omega, ?_⟩
  rw [empty_app]
  refine zE_mono h fun x H1 ⟨z1, f1, l1, h1⟩ => fv_ok f1 (by omega) ⟨z1, rfl, by rw [slen]; omega, ?_⟩
  refine e_str ⟨s2, rfl, by rw [slen, slen]; omega, ?_⟩
  refine zE_mono h1 fun x H2 ⟨z2, f2, l2, h2⟩ => fv_ok f2 (by omega) ⟨z2, rfl, by rw [slen, slen, slen]; omega, ?_⟩
  refine e_str ⟨s3, rfl, by rw [slen, slen, slen, slen]; omega, ?_⟩
  exact zE_mono h2 fun x H3 ⟨z3, f3, l3, h3⟩ => fv_ok f3 (by omega) ⟨z3, rfl, by rw [slen, slen, slen, slen, slen]; omega, h3⟩
end
end Z

/-! a lambda made at each item of a comprehension; its target is a cell -/
namespace Z
open PySem L2
section
variable {X : Cx} {P : Program} {w : World} {K : PySem.W.Frag} {mg : Str → Option Value} {base : Heap} {N : List Str} {sc : Scope} {k : Nat} {σ : L2.St} {H : Hp} {Q : VK}
theorem eb_introL {scope : Scope} {e : Expr} (C : Ctx X P w K mg base N sc k) (h : ∀ X1, Ctx X1 P w K mg base N (relS scope sc) k → X1.env.code = X.env.code → X1.env.qual = X.env.qual → zE X1 e σ H Q) : zEb X scope e σ H Q := fun s H0 c0 cl fp => h _ (C.blk s H0 scope c0 cl fp) rfl rfl
theorem tabS_lst {H : Hp} {T D : Addr} {q : Str} {ys zs : List V} (t : LamX.TabS H T q) (hD : H D = some (.lst ys)) : LamX.TabS (upd H D (.lst zs)) T q := by
  obtain ⟨ps, h1, h2, h3⟩ := t
  refine ⟨ps, ?_, h2, fun pos cv hc => ?_⟩
  · rw [upd_ne (fun e => by rw [e, hD] at h1; cases h1)]
    exact h1
  · obtain ⟨c, e1, e2⟩ := h3 pos cv hc
    refine ⟨c, e1, ?_⟩
    rw [upd_ne (fun e => by rw [e, hD] at e2; cases e2)]
    exact e2
/-- [elt for x in it], x a cell, elt a new tuple g i; lambdas may be made -/
theorem e_lcL {x : Str} {j : Nat} {px : Pos} {elt it : Expr} {scope : Scope} {own : List (Str × Nat)} {pos : Pos} {T : Addr} {q : Str} (C : Ctx X P w K mg base N sc k) (hb : blkC N sc scope own = true) (h1 : N[j]? = some x) (h2 : locB (relS scope sc) x = true) (hf : (scope.names.lookup x == some .cell) = true)
    (hw : ∀ v, wipe ((wipe σ (own.map (·.2))).set j (some v)) (own.map (·.2)) = wipe σ (own.map (·.2)))
    (h : zI X (.Name x px) it σ H fun J H1 => ∃ n S Y, ∃ g : Nat → List V, Walk J n S Y ∧ n ≤ 100000 ∧ LamX.TabS H1 T q ∧ (∀ H', LamX.ExtN H1 H' → S H') ∧
      (∀ i v H', i < n → LamX.ExtN H1 H' → LamX.TabS H' T q → Y i v H' → ∀ X1, Ctx X1 P w K mg base N (relS scope sc) k → X1.env.code = X.env.code → X1.env.qual = X.env.qual → zE X1 elt ((wipe σ (own.map (·.2))).set j (some v)) H' fun y H4 => LamX.ExtN H' H4 ∧ LamX.TabS H4 T q ∧ ∃ A, y = .ref A ∧ H4 A = some (.tup (g i))) ∧
      ∀ D ys H', H1 D = none → LamX.ExtN H1 H' → LamX.TabS H' T q → H' D = some (.lst ys) → ys.length = n → (∀ i, i < n → ∃ A, ys[i]? = some (.ref A) ∧ H' A = some (.tup (g i))) → Q (.ref D) H')
    (hs : ∀ x, foldedSetIterable it X.env x = pure x := by intro _; rfl) : zE X (.ListComp elt [⟨.Name x px, it, [], 0⟩] scope pos) σ H Q := by
  refine e_lcW (own := own) C hb (zI_mono h fun J H1 ⟨n, S, Y, g, W, hn, ht, hS, he, hd⟩ => ?_) hs
  refine ⟨n, S, Y, fun D i ys H' => i ≤ n ∧ LamX.ExtN H1 H' ∧ LamX.TabS H' T q ∧ ys.length = i ∧ ∀ t, t < i → ∃ A, ys[t]? = some (.ref A) ∧ H' A = some (.tup (g t)), W, ⟨hn, fun D hD => ?_, fun D i ys H' ⟨_, x, _⟩ => hS H' x, fun D i ys H' ⟨_, _, _, e, _⟩ => by omega, ?_⟩, fun D ys H' hD hl ⟨_, x, t, hl2, hy⟩ => hd D ys H' hD x t hl hl2 hy⟩
  · exact ⟨Nat.zero_le _, .of (Evl.Ex.new hD), ht.ext (Evl.Ex.new hD), rfl, fun t ht => absurd ht (Nat.not_lt_zero _)⟩
  · rintro D i v ys H0 H' hi hD hl ⟨_, x0, t0, hl0, hy0⟩ e hY
    refine fun s H0 c0 cl fp => g_name ((C.blk s H0 scope c0 cl fp).ns h1 h2 (.inl hf)) ⟨hw v, fun _ _ _ _ _ => ts_nil ?_⟩
    refine if_pos rfl ▸ eb_introL C fun X1 C1 hc hq => ?_
    refine zE_mono (he i v H' hi (x0.trans (.of e)) (t0.ext e) hY X1 C1 hc hq) fun y H4 ⟨x4, t4, A, hyA, hA⟩ => ?_
    have hD4 : H4 D = some (.lst ys) := x4 _ _ (e _ _ hl) fun _ z => by cases z
    subst hyA
    refine ⟨hD4, by omega, ?_, tabS_lst t4 hD4, by rw [List.length_append, hl0]; rfl, fun t ht => ?_⟩
    · intro b o hb hn
      rw [upd_ne (fun z => by rw [z, hD] at hb; cases hb)]
      exact x4 _ _ (e _ _ (x0 _ _ hb hn)) hn
    · have up : ∀ A xs, H4 A = some (.tup xs) → (upd H4 D (.lst (ys ++ [.ref A]))) A = some (.tup xs) := fun A xs h => by
        rw [upd_ne (fun z => by rw [z, hD4] at h; cases h)]
        exact h
      by_cases hti : t < i
      · obtain ⟨A', g1, g2⟩ := hy0 t hti
        refine ⟨A', by rw [List.getElem?_append_left (by omega)]; exact g1, ?_⟩
        have g3 := x4 _ _ (e _ _ g2) fun _ z => by cases z
        rw [upd_ne (fun z => by rw [z, hD4] at g3; cases g3)]
        exact g3
      · have : t = i := by omega
        subst this
        refine ⟨A, by rw [List.getElem?_append_right (by omega), hl0, Nat.sub_self]; rfl, ?_⟩
        rw [upd_ne (fun z => by rw [z, hD4] at hA; cases hA)]
        exact hA
end
end Z

namespace Law
open PySem L2 Z
local macro_rules | `(tactic| kpt_turns) => `(tactic| first
  | assumption
  | with_reducible exact upd_same
  | with_reducible exact SqL.of upd_same
  | exact SqL.of (by assumption)
  | exact SqT.of (by assumption)
  | (with_reducible apply SqL.of; kpt_turns)
  | (with_reducible apply SqT.of; kpt_turns)
  | (with_reducible apply get_ne; (case h => assumption); kpt_turns)
  | (with_reducible apply ex_g; (case e => assumption); kpt_turns)
  | (with_reducible apply ex_l; (case e => assumption); kpt_turns)
  | (with_reducible apply ex_t; (case e => assumption); kpt_turns))
local macro_rules | `(tactic| tb_rel) => `(tactic| first
  | ((with_reducible apply idE); first
    | ((with_reducible apply e_name); (case n => with_reducible assumption); (case hv => rfl); (case hd => decide); (case hcd => decide))
    | with_reducible apply e_int
    | with_reducible apply e_str
    | with_reducible apply e_op
    | ((with_reducible apply e_cmp); (case hm => rfl))
    | ((with_reducible apply e_cal0); (case C => assumption); (case c => with_reducible assumption); (case hj => first | decide | omega); (case hg => decide +kernel); (case hdb => decide); (case he => rfl); (case hpl => rfl))
    | ((with_reducible apply e_calR); (case C => assumption); (case c => with_reducible assumption); (case tk => with_reducible assumption); (case hj => first | decide | omega); (case hg => decide +kernel); (case hdb => decide); (case he => rfl); (case hpl => rfl))
    | ((with_reducible apply e_calN); (case C => assumption); (case c => with_reducible assumption); (case hj => first | decide | omega); (case hg => decide +kernel); (case hdb => decide); (case he => rfl); (case hpl => rfl))
    | with_reducible apply e_revL
    | ((with_reducible apply e_ix); (case hs => exact fun _ _ => rfl))
    | ((with_reducible apply e_len); (case C => assumption); (case hm => with_reducible assumption); (case hg => decide +kernel); (case he => rfl))
    | with_reducible apply e_bl
    | with_reducible apply e_non
    | with_reducible apply e_slice
    | with_reducible apply e_if
    | with_reducible apply e_not
    | with_reducible apply e_and
    | with_reducible apply e_or
    | with_reducible apply e_bone
    | with_reducible apply e_un
    | ((with_reducible apply e_append); (case hp => exact pe_bm PySem.F.plainAttrs_list PySem.F.slot_list_append PySem.F.type_list_append mt_append (zE_ok _) (zA_ok _)); (case he => rfl))
    | ((with_reducible apply e_pop); (case hp => exact pe_bm0 PySem.F.plainAttrs_list PySem.F.slot_list_pop PySem.F.type_list_pop mt_pop (zE_ok _)))
    | ((with_reducible apply e_sadd); (case C => assumption); (case hbase => rfl); (case hfew => rfl); (case hline => rfl); (case hs => rfl); (case hpl => rfl))
    | ((with_reducible apply e_set0); (case C => assumption); (case hm => with_reducible assumption); (case hg => decide +kernel))
    | ((with_reducible apply e_list1); (case C => assumption); (case hm => with_reducible assumption); (case hg => decide +kernel); (case he => rfl))
    | ((with_reducible apply e_tup1); (case C => assumption); (case hm => with_reducible assumption); (case hg => decide +kernel); (case he => rfl))
    | ((with_reducible apply e_cval); (case C => assumption); (case g => with_reducible assumption); (case c => with_reducible assumption); (case hg => decide +kernel); (case hd => decide); (case hb => rfl))
    | ((with_reducible apply e_join); (case hs => rfl); (case hb => rfl); (case hl => rfl))
    | ((with_reducible apply e_sorted); (case C => assumption); (case hm => with_reducible assumption); (case hg => decide +kernel); (case he => rfl))
    | ((with_reducible apply e_gstr); (case C => assumption); (case g => with_reducible assumption); (case hg => decide +kernel); (case hd => decide))
    | ((with_reducible apply e_gint); (case C => assumption); (case g => with_reducible assumption); (case hg => decide +kernel); (case hd => decide))
    | ((with_reducible apply e_int1); (case C => assumption); (case hm => with_reducible assumption); (case hg => decide +kernel); (case he => rfl))
    | ((with_reducible apply e_isi); (case C => assumption); (case hm => with_reducible assumption); (case hU => with_reducible assumption); (case hu => decide); (case hv => decide +kernel); (case hg => decide +kernel); (case hg2 => decide +kernel); (case hn => decide); (case hd => decide); (case he => rfl); (case he2 => rfl); (case hpl => rfl))
    | ((with_reducible apply e_all); (case C => assumption); (case hm => with_reducible assumption); (case hg => decide +kernel); (case he => rfl))
    | ((with_reducible apply e_any); (case C => assumption); (case hm => with_reducible assumption); (case hg => decide +kernel); (case he => rfl))
    | ((with_reducible apply e_sum); (case C => assumption); (case hm => with_reducible assumption); (case hg => decide +kernel); (case he => rfl))
    | ((with_reducible apply e_min); (case C => assumption); (case hm => with_reducible assumption); (case hg => decide +kernel); (case he => rfl))
    | ((with_reducible apply e_max); (case C => assumption); (case hm => with_reducible assumption); (case hg => decide +kernel); (case he => rfl))
    | ((with_reducible apply e_chain); (case hm => with_unfolding_all rfl)))
  | ((with_reducible apply idO); first
    | with_reducible apply o_add
    | with_reducible apply o_sub
    | with_reducible apply o_iadd
    | with_reducible apply o_isub
    | with_reducible apply o_lt
    | with_reducible apply o_le
    | with_reducible apply o_gt
    | with_reducible apply o_ge
    | with_reducible apply o_eqI
    | with_reducible apply o_neI
    | with_reducible apply o_eqS
    | with_reducible apply o_neS
    | with_reducible apply o_inC
    | with_reducible apply o_ninC
    | with_reducible apply o_isN
    | with_reducible apply o_notN
    | with_reducible apply o_eqB
    | with_reducible apply o_neB
    | ((with_reducible apply o_mulR); (case hi => decide))
    | ((with_reducible apply o_mulL); (case hi => decide))
    | ((with_reducible apply o_mod); (case hj => first | decide | omega))
    | ((with_reducible apply o_div); (case hj => first | decide | omega))
    | ((with_reducible apply o_pow); (case hj => decide)))
  | ((with_reducible apply idX); first
    | ((with_reducible apply x_l); (case hl => kpt_turns); (case ha => rfl))
    | ((with_reducible apply x_t); (case hl => kpt_turns); (case ha => rfl)))
  | ((with_reducible apply idSet); first
    | ((with_reducible apply st_lU); (case hj => rfl))
    | ((with_reducible apply st_l); (case hl => kpt_turns); (case hj => rfl)))
  | ((with_reducible apply idB); first
    | with_reducible apply b_cons
    | with_reducible apply b_nil)
  | ((with_reducible apply idS); first
    | ((with_reducible apply s_set); (case n => with_reducible assumption); (case hs => rfl))
    | with_reducible apply s_if
    | with_reducible apply s_ret
    | ((with_reducible apply s_expr); (case hs => rfl))
    | ((with_reducible apply s_aug); (case n => with_reducible assumption); (case hv => rfl))
    | with_reducible apply s_pass
    | with_reducible apply s_break
    | with_reducible apply s_continue
    | with_reducible apply s_retN
    | ((with_reducible apply s_pair); (case C => assumption); (case nx' => with_reducible assumption); (case ny => with_reducible assumption); (case hij => decide); (case hx => decide +kernel); (case hy => decide +kernel); (case hw => decide +kernel); (case hs2 => rfl); (case hs1 => rfl); (case hs => rfl))
    | ((with_reducible apply s_tup); (case C => assumption); (case hw => decide +kernel); (case hn => rfl); (case hst => rfl); (case hs => rfl); (case h1 => rfl))
    | ((with_reducible apply s_asg); (case hs => rfl); (case hw => rfl); (case h1 => rfl)))
  | ((with_reducible apply idT); first
    | ((with_reducible apply t_cmp); (case hm => rfl))
    | with_reducible apply t_not
    | with_reducible apply t_and
    | with_reducible apply t_or
    | ((with_reducible apply t_chain); (case hm => with_unfolding_all rfl))
    | ((with_reducible apply t_val); (case he => intro _; rfl)))
  | ((with_reducible apply idA); first
    | ((with_reducible apply a_cons); (case hs => rfl))
    | with_reducible apply a_nil)
  | ((with_reducible apply idW); first
    | with_reducible apply w_and
    | with_reducible apply w_or
    | with_reducible apply w_and1
    | with_reducible apply w_or1)
  | ((with_reducible apply idG); first
    | ((with_reducible apply g_name); (case n => with_reducible assumption))
    | ((with_reducible apply g_sub); (case hp => exact pg_sub (zE_ok _) (zE_ok _) zSet_ok)))
  | ((with_reducible apply idGs); first
    | ((with_reducible apply gs_cons); (case hs => rfl))
    | with_reducible apply gs_nil)
  | ((with_reducible apply idP); first
    | with_reducible apply p_none
    | with_reducible apply p_some)
  | ((with_reducible apply idU); first
    | with_reducible apply o_neg)
  | ((with_reducible apply idC); first
    | with_reducible apply c_int
    | ((with_reducible apply c_lenL); (case hl => kpt_turns))
    | ((with_reducible apply c_lenT); (case hl => kpt_turns)))
  | with_reducible apply bl_ok
  | with_reducible apply int_ok
  | with_reducible apply str_ok
  | with_reducible apply if_t
  | with_reducible apply if_f
  | with_reducible apply ty_non
  | with_reducible apply ty_bl
  | with_reducible apply ty_int
  | with_reducible apply ty_str
  | ((with_reducible apply if_ct); (case hc => first | decide | rfl))
  | ((with_reducible apply if_cf); (case hc => first | decide | rfl))
  | ((with_reducible apply ty_lst); (case hx => kpt_turns))
  | ((with_reducible apply ty_tup); (case hx => kpt_turns)))
local macro_rules | `(tactic| kpc_turns) => `(tactic| (repeat tb_rel))
/-! letters, arity, first_fault -/
def zLeaves : Str := "abcdefgh"
def zSingles : Str := "ijklmnop"
def zLetters : Str := "abcdefghijklmnopqrstuvwxyz"
def ar (c : Nat) : Nat := if c ∈ tl zLeaves then 0 else if c ∈ tl zSingles then 1 else 2
def fault (w i : Nat) : List Nat → Option Nat
  | [] => if w = 0 then none else some i
  | c :: cs => if w = 0 ∨ c ∉ tl zLetters then some i else fault (w + ar c - 1) (i + 1) cs
def optI : Option Nat → V
  | none => .non
  | some i => .int i
abbrev s_arity : Stmt := topS 33
abbrev N_arity : List Str := ["letter"]
abbrev P_arity : List Str := ["letter"]
theorem sc_arity : FnScope N_arity P_arity (defScope s_arity) := ⟨rfl, rfl, rfl, by decide +kernel, rfl, by decide +kernel, by decide +kernel⟩
abbrev s_first_fault : Stmt := topS 34
abbrev N_first_fault : List Str := ["text", "wanted", "at", "letter"]
abbrev P_first_fault : List Str := ["text"]
theorem sc_first_fault : FnScope N_first_fault P_first_fault (defScope s_first_fault) := ⟨rfl, rfl, rfl, by decide +kernel, rfl, by decide +kernel, by decide +kernel⟩

def spArity : Sp := fun vs H Q _ => ∃ c : Nat, vs = [.str ⟨#[c]⟩] ∧ Q (.int (ar c)) H
def spFault : Sp := fun vs H Q _ => ∃ z : Str, vs = [.str z] ∧ z.length ≤ 100000 ∧ ∀ H', Ex H H' → Q (optI (fault 1 0 (tl z))) H'
section
variable {P : Program} {w : World} {K : PySem.W.Frag} {mg : Str → Option Value} {base : Heap}
theorem ok_arity {f : Addr} {fd : FuncData} (F : FnP K "arity" s_arity f fd) (g1 : Gs mg "LEAVES" zLeaves) (g2 : Gs mg "SINGLES" zSingles) : FnOk P w K mg base CX0 1 f fd P_arity spArity := by
  refine fn_ok F sc_arity (fun vs H Q E ⟨c, h, _⟩ => by rw [h]; rfl) fun X vs H Q E C hfn ⟨c, hv, hq⟩ => ?_
  subst hv
  have n_letter : Nm X "letter" 0 := C.nm rfl (by decide +kernel)
  unfold ar at hq
  refine b_cons ?_
  kpc_turns
  refine if_d (fun hc => ?_) fun hc => ?_
  · rw [if_pos hc] at hq
    kpc_turns
    exact hq
  · rw [if_neg hc] at hq
    kpc_turns
    refine if_d (fun hd => ?_) fun hd => ?_
    · rw [if_pos hd] at hq
      kpc_turns
      exact hq
    · rw [if_neg hd] at hq
      kpc_turns
      exact hq
theorem ok_fault {f : Addr} {fd : FuncData} (F : FnP K "first_fault" s_first_fault f fd) (g1 : Gs mg "LETTERS" zLetters) (mE : mg "enumerate" = none) (mL : mg "len" = none) (cA : Cal P w K mg base CX0 "arity" 1 1 spArity) :
    FnOk P w K mg base CX0 2 f fd P_first_fault spFault := by
  refine fn_ok F sc_first_fault (fun vs H Q E ⟨c, h, _⟩ => by rw [h]; rfl) fun X vs H Q E C hfn ⟨z, hv, hz, hq⟩ => ?_
  subst hv
  have n_text : Nm X "text" 0 := C.nm rfl (by decide +kernel)
  have n_wanted : Nm X "wanted" 1 := C.nm rfl (by decide +kernel)
  have n_at : Nm X "at" 2 := C.nm rfl (by decide +kernel)
  have n_letter : Nm X "letter" 3 := C.nm rfl (by decide +kernel)
  have w_wanted : Ns X "wanted" 1 := C.ns rfl (by decide +kernel) (.inl (hfn _))
  have w_at : Ns X "at" 2 := C.ns rfl (by decide +kernel) (.inl (hfn _))
  have w_letter : Ns X "letter" 3 := C.ns rfl (by decide +kernel) (.inl (hfn _))
  refine b_cons ?_
  kpc_turns
  refine s_for C (i_enumS (C.gl (by decide +kernel)) (by rw [C.mgl]; exact mE) ?_)
  kpc_turns
  refine ⟨_, _, _, fun i σ H' => ∃ (wd : Nat) (o2 o3 : Option V), σ = [some (.str z), some (.int wd), o2, o3] ∧ Ex H H' ∧ fault 1 0 (tl z) = fault wd i ((tl z).drop i), walk_enumS z, ⟨1, none, none, rfl, Evl.Ex.refl _, rfl⟩, fun _ _ _ _ _ => trivial, ?_, ?_⟩
  · rintro i x σ H1 H2 hi ⟨wd, o2, o3, rfl, e1, hf⟩ e2 ⟨T, c, rfl, hc, hT⟩
    refine g_tup C (SqT.of hT) ?_
    rw [List.drop_eq_getElem_cons hi] at hf
    have hc' : (tl z)[i] = c := (List.getElem?_eq_some_iff.mp hc).2
    rw [hc'] at hf
    conv at hf => rhs; unfold fault
    kpc_turns
    refine if_d (fun h0 => ?_) fun h0 => ?_
    · kpc_turns
      rw [if_pos (.inl (by omega))] at hf
      rw [hf] at hq
      exact hq _ (e1.trans e2)
    · kpc_turns
      refine if_nd (fun h1 => ?_) fun h1 => ?_
      · kpc_turns
        rw [if_pos (.inr h1)] at hf
        rw [hf] at hq
        exact hq _ (e1.trans e2)
      · kpc_turns
        refine ⟨c, rfl, ?_⟩
        kpc_turns
        rw [if_neg (by rintro (h | h); exact h0 (by omega); exact h h1)] at hf
        refine ⟨wd + ar c - 1, some (.int i), some (.str ⟨#[c]⟩), ?_, e1.trans e2, hf⟩
        have : ((wd + ar c - 1 : Nat) : Int) = (wd : Int) + ((ar c : Int) - 1) := by omega
        rw [this]
        rfl
  · rintro σ H1 ⟨wd, o2, o3, rfl, e1, hf⟩
    rw [List.drop_length] at hf
    conv at hf => rhs; unfold fault
    kpc_turns
    refine if_d (fun h0 => ?_) fun h0 => ?_
    · kpc_turns
      rw [if_pos (by omega)] at hf
      rw [hf] at hq
      exact hq _ e1
    · kpc_turns
      rw [if_neg (by omega)] at hf
      refine c_lenS (sz_le hz) ?_
      rw [hf] at hq
      rw [lenI_tl]
      exact hq _ e1
end

/-! reading words: plain facts -/
/-- what is still wanted behind a word -/
def con : Nat → List Nat → Option Nat
  | w, [] => some w
  | 0, _ :: _ => none
  | w + 1, c :: cs => if c ∈ tl zLetters then con (w + ar c) cs else none
def skp : Nat → List Nat → Nat
  | 0, _ => 0
  | _ + 1, [] => 0
  | w + 1, c :: cs => 1 + skp (w + ar c) cs
abbrev Tree (cs : List Nat) : Prop := con 1 cs = some 0
theorem con_nil (w : Nat) : con w [] = some w := by unfold con; rfl
theorem con_zero (c : Nat) (cs : List Nat) : con 0 (c :: cs) = none := by unfold con; rfl
theorem con_cons {w c : Nat} {cs : List Nat} {v : Nat} (h : con w (c :: cs) = some v) : ∃ u, w = u + 1 ∧ c ∈ tl zLetters ∧ con (u + ar c) cs = some v := by
  cases w with
  | zero => rw [con_zero] at h; cases h
  | succ u =>
    unfold con at h
    split at h
    · exact ⟨u, rfl, ‹_›, h⟩
    · cases h
theorem con_succ {w c : Nat} {cs : List Nat} (hc : c ∈ tl zLetters) : con (w + 1) (c :: cs) = con (w + ar c) cs := by
  conv => lhs; unfold con
  rw [if_pos hc]
theorem fault_con : ∀ (cs : List Nat) (w i : Nat), fault w i cs = none ↔ con w cs = some 0
  | [], w, i => by
    unfold fault con
    by_cases h : w = 0
    · subst h; simp
    · rw [if_neg h]; simp [h]
  | c :: cs, w, i => by
    unfold fault
    cases w with
    | zero => rw [con_zero]; simp
    | succ u =>
      by_cases h : c ∈ tl zLetters
      · rw [if_neg (by rintro (h1 | h1); omega; exact h1 h), con_succ h, show u + 1 + ar c - 1 = u + ar c by omega]
        exact fault_con cs _ _
      · rw [if_pos (.inr h)]
        unfold con
        rw [if_neg h]
        simp
theorem con_app : ∀ (a b : List Nat) (w : Nat), con w (a ++ b) = (con w a).bind fun v => con v b
  | [], b, w => by rw [con_nil]; rfl
  | c :: a, b, w => by
    cases w with
    | zero => rw [con_zero]; show con 0 (c :: (a ++ b)) = _; rw [con_zero]; rfl
    | succ u =>
      show con (u + 1) (c :: (a ++ b)) = _
      by_cases h : c ∈ tl zLetters
      · rw [con_succ h, con_succ h]; exact con_app a b _
      · unfold con; rw [if_neg h, if_neg h]; rfl
theorem con_some {a b : List Nat} {w v u : Nat} (h : con w a = some v) (h2 : con v b = some u) : con w (a ++ b) = some u := by rw [con_app, h]; exact h2
theorem con_split {a b : List Nat} {w u : Nat} (h : con w (a ++ b) = some u) : ∃ v, con w a = some v ∧ con v b = some u := by
  rw [con_app] at h
  cases e : con w a with
  | none => rw [e] at h; cases h
  | some v => rw [e] at h; exact ⟨v, rfl, h⟩
theorem con_add : ∀ (a : List Nat) (w v d : Nat), con w a = some v → con (w + d) a = some (v + d)
  | [], w, v, d, h => by rw [con_nil] at h ⊢; cases h; rfl
  | c :: a, w, v, d, h => by
    obtain ⟨u, rfl, hc, h⟩ := con_cons h
    rw [show u + 1 + d = (u + d) + 1 by omega, con_succ hc, show u + d + ar c = u + ar c + d by omega]
    exact con_add a _ _ d h
theorem con_all : ∀ (a : List Nat) (w v : Nat), con w a = some v → ∀ c ∈ a, c ∈ tl zLetters
  | [], _, _, _, c, hc => by cases hc
  | c :: a, w, v, h, d, hd => by
    obtain ⟨u, rfl, hc, h⟩ := con_cons h
    rcases List.mem_cons.mp hd with rfl | hd
    · exact hc
    · exact con_all a _ _ h d hd
theorem skp_zero (cs : List Nat) : skp 0 cs = 0 := by unfold skp; rfl
theorem skp_cons (w c : Nat) (cs : List Nat) : skp (w + 1) (c :: cs) = 1 + skp (w + ar c) cs := by conv => lhs; unfold skp
theorem skp_le : ∀ (cs : List Nat) (w : Nat), skp w cs ≤ cs.length
  | [], w => by cases w <;> simp [skp]
  | c :: cs, 0 => by rw [skp_zero]; omega
  | c :: cs, w + 1 => by rw [skp_cons, List.length_cons]; have := skp_le cs (w + ar c); omega
theorem skp_con : ∀ (cs : List Nat) (w v : Nat), con (w + v) cs = some 0 → con w (cs.take (skp w cs)) = some 0 ∧ con v (cs.drop (skp w cs)) = some 0
  | cs, 0, v, h => by rw [skp_zero]; exact ⟨con_nil 0, by simpa using h⟩
  | [], w + 1, v, h => by rw [con_nil] at h; have := Option.some.inj h; omega
  | c :: cs, w + 1, v, h => by
    rw [show w + 1 + v = (w + v) + 1 by omega] at h
    obtain ⟨u, e, hc, h⟩ := con_cons h
    have : u = w + v := by omega
    subst this
    rw [show w + v + ar c = (w + ar c) + v by omega] at h
    obtain ⟨h1, h2⟩ := skp_con cs _ v h
    rw [skp_cons, show 1 + skp (w + ar c) cs = skp (w + ar c) cs + 1 by omega, List.take_succ_cons, List.drop_succ_cons, con_succ hc]
    exact ⟨h1, h2⟩
theorem skp_of : ∀ (a b : List Nat) (w : Nat), con w a = some 0 → skp w (a ++ b) = a.length
  | [], b, w, h => by rw [con_nil] at h; cases h; rw [skp_zero]; rfl
  | c :: a, b, w, h => by
    obtain ⟨u, rfl, hc, h⟩ := con_cons h
    show skp (u + 1) (c :: (a ++ b)) = _
    rw [skp_cons, skp_of a b _ h, List.length_cons]
    omega
/-- where the subtree at i ends -/
def endo (cs : List Nat) (i : Nat) : Nat := i + skp 1 (cs.drop i)
theorem endo_le {cs : List Nat} {i : Nat} (h : i ≤ cs.length) : endo cs i ≤ cs.length := by
  unfold endo
  have := skp_le (cs.drop i) 1
  rw [List.length_drop] at this
  omega
theorem endo_gt {cs : List Nat} {i : Nat} (h : i < cs.length) : i < endo cs i := by
  unfold endo
  rw [List.drop_eq_getElem_cons h, skp_cons]
  omega
/-- a tree, opened at i -/
theorem tree_at {cs : List Nat} (t : Tree cs) {i : Nat} (h : i < cs.length) : ∃ v, con 1 (cs.take i) = some (v + 1) ∧ con (v + 1) (cs.drop i) = some 0 := by
  have : Tree (cs.take i ++ cs.drop i) := by rw [List.take_append_drop]; exact t
  obtain ⟨v, h1, h2⟩ := con_split this
  cases v with
  | zero =>
    rw [List.drop_eq_getElem_cons h, con_zero] at h2
    cases h2
  | succ v => exact ⟨v, h1, h2⟩
/-- the subtree at i -/
def sub (cs : List Nat) (i : Nat) : List Nat := (cs.drop i).take (skp 1 (cs.drop i))
theorem sub_parts {cs : List Nat} (t : Tree cs) {i : Nat} (h : i < cs.length) : Tree (sub cs i) ∧ ∃ v, con 1 (cs.take i) = some (v + 1) ∧ con v (cs.drop (endo cs i)) = some 0 := by
  obtain ⟨v, h1, h2⟩ := tree_at t h
  rw [show v + 1 = 1 + v by omega] at h2
  obtain ⟨h3, h4⟩ := skp_con _ _ _ h2
  exact ⟨h3, v, h1, by rw [List.drop_drop] at h4; exact h4⟩
theorem sub_len (cs : List Nat) (i : Nat) : i + (sub cs i).length = endo cs i := by
  unfold sub endo
  rw [List.length_take, Nat.min_eq_left (skp_le _ _)]
theorem sub_back (cs : List Nat) (i : Nat) : cs.take i ++ sub cs i ++ cs.drop (endo cs i) = cs := by
  unfold sub endo
  rw [List.append_assoc, ← List.drop_drop, List.take_append_drop, List.take_append_drop]
/-- another tree in place of the subtree at i -/
def rep (cs : List Nat) (i : Nat) (us : List Nat) : List Nat := cs.take i ++ us ++ cs.drop (endo cs i)
theorem rep_tree {cs us : List Nat} (t : Tree cs) {i : Nat} (h : i < cs.length) (hu : Tree us) : Tree (rep cs i us) := by
  obtain ⟨_, v, h1, h2⟩ := sub_parts t h
  have := con_add us 1 0 v hu
  rw [show 1 + v = v + 1 by omega, show 0 + v = v by omega] at this
  exact con_some (con_some h1 this) h2
theorem rep_sub (cs : List Nat) (i : Nat) : rep cs i (sub cs i) = cs := sub_back cs i
theorem rep_at {cs us : List Nat} (t : Tree cs) {i : Nat} (h : i < cs.length) (hu : Tree us) : sub (rep cs i us) i = us := by
  have e : (rep cs i us).drop i = us ++ cs.drop (endo cs i) := by
    unfold rep
    rw [List.append_assoc, List.drop_append_of_le_length (by rw [List.length_take]; omega), List.drop_eq_nil_of_le (by rw [List.length_take]; omega)]
    rfl
  unfold sub
  rw [e, skp_of us _ 1 hu, List.take_left]
theorem rep_gt {cs us : List Nat} {i : Nat} (h : i < cs.length) (hu : us ≠ []) : i < (rep cs i us).length := by
  unfold rep
  rw [List.length_append, List.length_append, List.length_take]
  have := List.length_pos_iff.mpr hu
  omega
theorem tree_ne {cs : List Nat} (t : Tree cs) : cs ≠ [] := by rintro rfl; rw [Tree, con_nil] at t; cases t
/-- n subtrees from i on -/
def kids (cs : List Nat) : Nat → Nat → List Nat
  | 0, _ => []
  | n + 1, i => i :: kids cs n (endo cs i)
def after (cs : List Nat) : Nat → Nat → Nat
  | 0, i => i
  | n + 1, i => after cs n (endo cs i)
theorem after_skp {cs : List Nat} : ∀ (n i v : Nat), con (n + v) (cs.drop i) = some 0 → after cs n i = i + skp n (cs.drop i) ∧ con v (cs.drop (after cs n i)) = some 0
  | 0, i, v, h => by unfold after; rw [skp_zero]; exact ⟨rfl, by simpa using h⟩
  | n + 1, i, v, h => by
    have h' : con (1 + (n + v)) (cs.drop i) = some 0 := by rw [← h]; congr 1; omega
    obtain ⟨h1, h2⟩ := skp_con _ _ _ h'
    rw [List.drop_drop] at h2
    obtain ⟨h3, h4⟩ := after_skp n (endo cs i) v h2
    unfold after
    refine ⟨?_, h4⟩
    rw [h3]
    have hn : con 1 (cs.drop i) ≠ none ∨ True := .inr trivial
    have e : skp (n + 1) (cs.drop i) = skp 1 (cs.drop i) + skp n (cs.drop (endo cs i)) := by
      have hs : (cs.drop i) = (cs.drop i).take (skp 1 (cs.drop i)) ++ (cs.drop i).drop (skp 1 (cs.drop i)) := (List.take_append_drop _ _).symm
      have key : ∀ (a b : List Nat) (w : Nat), con w a = some 0 → skp (n + w) (a ++ b) = a.length + skp n b := by
        intro a
        induction a with
        | nil => intro b w hw; rw [con_nil] at hw; cases hw; simp
        | cons c a ih =>
          intro b w hw
          obtain ⟨u, rfl, hc, hw⟩ := con_cons hw
          show skp (n + (u + 1)) (c :: (a ++ b)) = _
          rw [show n + (u + 1) = (n + u) + 1 by omega, skp_cons, show n + u + ar c = n + (u + ar c) by omega, ih b _ hw, List.length_cons]
          omega
      have := key _ ((cs.drop i).drop (skp 1 (cs.drop i))) 1 h1
      rw [List.take_append_drop, List.length_take, Nat.min_eq_left (skp_le _ _), List.drop_drop] at this
      exact this
    rw [e]
    unfold endo
    omega
theorem kids_join {cs : List Nat} : ∀ (n i : Nat), con n (cs.drop i) = some 0 → ((kids cs n i).map (sub cs)).flatten = cs.drop i
  | 0, i, h => by
    unfold kids
    cases e : cs.drop i with
    | nil => rfl
    | cons c r => rw [e, con_zero] at h; cases h
  | n + 1, i, h => by
    have h' : con (1 + n) (cs.drop i) = some 0 := by rw [← h]; congr 1; omega
    obtain ⟨h1, h2⟩ := skp_con _ _ _ h'
    rw [List.drop_drop] at h2
    have ih := kids_join n (endo cs i) h2
    unfold kids
    rw [List.map_cons, List.flatten_cons, ih]
    unfold sub endo
    rw [← List.drop_drop, List.take_append_drop]
theorem kids_lt {cs : List Nat} : ∀ (n i : Nat), con n (cs.drop i) = some 0 → ∀ p ∈ kids cs n i, p < cs.length
  | 0, i, h, p, hp => by unfold kids at hp; cases hp
  | n + 1, i, h, p, hp => by
    have h' : con (1 + n) (cs.drop i) = some 0 := by rw [← h]; congr 1; omega
    obtain ⟨h1, h2⟩ := skp_con _ _ _ h'
    rw [List.drop_drop] at h2
    unfold kids at hp
    rcases List.mem_cons.mp hp with rfl | hp
    · by_cases hl : p < cs.length
      · exact hl
      · rw [List.drop_eq_nil_of_le (by omega), con_nil] at h; cases h
    · exact kids_lt n _ h2 p hp
/-! the open nodes: a stack of (place, children not done) -/
def wt : List (Nat × Nat) → Nat
  | [] => 0
  | [(_, r)] => r
  | (_, r) :: s => r - 1 + wt s
def okS (cs : List Nat) (pos : Nat) : List (Nat × Nat) → Prop
  | [] => True
  | x :: s => endo cs x.1 = pos + skp (wt (x :: s)) (cs.drop pos) ∧ okS cs pos s
theorem wt_cons {x y : Nat × Nat} {s : List (Nat × Nat)} : wt (x :: y :: s) = x.2 - 1 + wt (y :: s) := rfl
theorem wt_push : ∀ (s : List (Nat × Nat)) (i a : Nat), s ≠ [] → (∀ x ∈ s, 1 ≤ x.2) → wt (s ++ [(i, a)]) = wt s - 1 + a ∧ 1 ≤ wt s
  | [x], i, a, _, h => by
    have := h x (by simp)
    refine ⟨?_, this⟩
    rfl
  | x :: y :: s, i, a, _, h => by
    obtain ⟨h1, h2⟩ := wt_push (y :: s) i a (by simp) fun z hz => h z (List.mem_cons_of_mem _ hz)
    have := h x (by simp)
    refine ⟨?_, by rw [wt_cons]; omega⟩
    show x.2 - 1 + wt (y :: s ++ [(i, a)]) = _
    rw [h1, wt_cons]
    omega
theorem ok_push {cs : List Nat} {i : Nat} (hi : i < cs.length) : ∀ (s : List (Nat × Nat)), (∀ x ∈ s, 1 ≤ x.2) → okS cs i s → okS cs (i + 1) (s ++ [(i, ar cs[i])])
  | [], _, _ => ⟨by
    show endo cs i = i + 1 + skp (ar cs[i]) (cs.drop (i + 1))
    unfold endo
    rw [List.drop_eq_getElem_cons hi, skp_cons, Nat.zero_add]
    omega, trivial⟩
  | x :: s, h, ⟨h1, h2⟩ => by
    refine ⟨?_, ok_push hi s (fun z hz => h z (List.mem_cons_of_mem _ hz)) h2⟩
    obtain ⟨w1, w2⟩ := wt_push (x :: s) i (ar cs[i]) (by simp) h
    show endo cs x.1 = i + 1 + skp (wt (x :: s ++ [(i, ar cs[i])])) _
    rw [w1, h1, List.drop_eq_getElem_cons hi]
    obtain ⟨u, hu⟩ : ∃ u, wt (x :: s) = u + 1 := ⟨wt (x :: s) - 1, by omega⟩
    rw [hu, skp_cons]
    show _ = i + 1 + skp (u + 1 - 1 + ar cs[i]) _
    rw [show u + 1 - 1 + ar cs[i] = u + ar cs[i] by omega]
    omega
/-- the top is done: it goes, and the one below has one less -/
theorem wt_pop : ∀ (s : List (Nat × Nat)) (p r i : Nat), wt (s ++ [(p, r), (i, 0)]) = wt (s ++ [(p, r - 1)])
  | [], p, r, i => by show r - 1 + 0 = r - 1; rfl
  | [x], p, r, i => by
    show x.2 - 1 + wt ([] ++ [(p, r), (i, 0)]) = x.2 - 1 + wt ([] ++ [(p, r - 1)])
    rw [wt_pop [] p r i]
  | x :: y :: s, p, r, i => by
    show x.2 - 1 + wt (y :: s ++ [(p, r), (i, 0)]) = x.2 - 1 + wt (y :: s ++ [(p, r - 1)])
    rw [wt_pop (y :: s) p r i]
theorem ok_pop {cs : List Nat} {pos : Nat} : ∀ (s : List (Nat × Nat)) (p r i : Nat), okS cs pos (s ++ [(p, r), (i, 0)]) → okS cs pos (s ++ [(p, r - 1)]) ∧ endo cs i = pos
  | [], p, r, i, ⟨h1, h2, _⟩ => by
    refine ⟨⟨?_, trivial⟩, ?_⟩
    · rw [show endo cs (p, r - 1).1 = endo cs p from rfl, show endo cs p = _ from h1]
      rfl
    · rw [show endo cs i = _ from h2]
      show pos + skp 0 _ = pos
      rw [skp_zero]; rfl
  | x :: s, p, r, i, ⟨h1, h2⟩ => by
    obtain ⟨h3, h4⟩ := ok_pop s p r i h2
    refine ⟨⟨?_, h3⟩, h4⟩
    show endo cs x.1 = pos + skp (wt (x :: s ++ [(p, r - 1)])) _
    rw [← wt_pop (x :: s) p r i]
    exact h1
theorem ok_last {cs : List Nat} {pos i : Nat} (h : okS cs pos [(i, 0)]) : endo cs i = pos := by
  rw [show endo cs i = _ from h.1]
  show pos + skp 0 _ = pos
  rw [skp_zero]; rfl
theorem wt_pos : ∀ (s : List (Nat × Nat)), s ≠ [] → (∀ x ∈ s, 1 ≤ x.2) → 1 ≤ wt s
  | [x], _, h => h x (by simp)
  | x :: y :: s, _, h => by rw [wt_cons]; have := wt_pos (y :: s) (by simp) fun z hz => h z (List.mem_cons_of_mem _ hz); omega
theorem ok_open {cs : List Nat} {pos : Nat} (hp : pos < cs.length) : ∀ (s : List (Nat × Nat)), (∀ x ∈ s, 1 ≤ x.2) → okS cs pos s → ∀ x ∈ s, pos < endo cs x.1
  | [], _, _, x, hx => by cases hx
  | y :: s, h, ⟨h1, h2⟩, x, hx => by
    rcases List.mem_cons.mp hx with rfl | hx
    · rw [h1]
      have := wt_pos (x :: s) (by simp) h
      obtain ⟨u, hu⟩ : ∃ u, wt (x :: s) = u + 1 := ⟨wt (x :: s) - 1, by omega⟩
      rw [hu, List.drop_eq_getElem_cons hp, skp_cons]
      omega
    · exact ok_open hp s (fun z hz => h z (List.mem_cons_of_mem _ hz)) h2 x hx
def opn (cs : List Nat) (i : Nat) : List Nat := (List.range i).filter fun p => decide (i < endo cs p)
theorem opn_succ (cs : List Nat) (i : Nat) : opn cs (i + 1) = (opn cs i ++ [i]).filter fun p => decide (i + 1 < endo cs p) := by
  unfold opn
  rw [List.range_succ, List.filter_append, List.filter_append, List.filter_filter]
  congr 1
  refine List.filter_congr fun p _ => ?_
  by_cases h : i + 1 < endo cs p
  · rw [decide_eq_true h, decide_eq_true (show i < endo cs p by omega)]; rfl
  · rw [decide_eq_false h]; rfl

/-! the law's own feed, its draws -/
abbrev s_law_feed : Stmt := topS 74
abbrev N_law_feed : List Str := ["_law_script", "_law_cells", "_law_cell", "_law_mark"]
abbrev P_law_feed : List Str := ["_law_script"]
theorem sc_law_feed : FnScope N_law_feed P_law_feed (defScope s_law_feed) := ⟨rfl, rfl, rfl, by decide +kernel, rfl, by decide +kernel, by decide +kernel⟩
abbrev s_law_draw : Stmt := topS 75
abbrev N_law_draw : List Str := ["_law_feed_here", "_law_many", "_law_cell", "_law_one", "_law_two", "_law_drawn"]
abbrev P_law_draw : List Str := ["_law_feed_here", "_law_many"]
theorem sc_law_draw : FnScope N_law_draw P_law_draw (defScope s_law_draw) := ⟨rfl, rfl, rfl, by decide +kernel, rfl, by decide +kernel, by decide +kernel⟩
abbrev s_law_any : Stmt := topS 76
abbrev N_law_any : List Str := ["_law_feed_here", "_law_row"]
abbrev P_law_any : List Str := ["_law_feed_here", "_law_row"]
theorem sc_law_any : FnScope N_law_any P_law_any (defScope s_law_any) := ⟨rfl, rfl, rfl, by decide +kernel, rfl, by decide +kernel, by decide +kernel⟩

/-- the feed at a, its cells at ca: seen as one thing that a draw leaves as it is -/
def feedP (a ca : Addr) (h : Heap) : Prop := ∃ (p r m : Int) (t1 t2 t3 : Tok) (n : Nat), h.get? a = some { cls := .type "list", data := .seq (#[.ref ca, .int p t1, .int r t2, .int m t3] : Array Value) n } ∧ 0 ≤ p
def FeedO (a ca : Addr) : HO := .ext (feedP a ca)
def feedL (ca : Addr) (p r m : Int) : List V := [.ref ca, .int p, .int r, .int m]
structure Feed (H : Hp) (a : Addr) : Prop where
  ex : ∃ (ca : Addr) (cells : List Int), H a = some (FeedO a ca) ∧ H ca = some (.lst (cells.map V.int)) ∧ cells.length ≤ 1000
theorem Feed.mono {H H' : Hp} {a : Addr} (f : Feed H a) (e : Ex H H') : Feed H' a := by
  obtain ⟨ca, cells, h1, h2, h3⟩ := f.ex
  exact ⟨ca, cells, e _ _ h1, e _ _ h2, h3⟩
section
variable {X : Cx} {σ : St} {H : Hp} {nx bk ct : St → Hp → Prop} {rt : VK} {Q : VK}
theorem feed_in {ps : List (Addr × Obj)} {s : Shared} {a ca : Addr} (I : Inv X ps σ H s) (h : H a = some (FeedO a ca)) : ∃ p r m : Int, 0 ≤ p ∧ Inv X ps σ (upd H a (.lst (feedL ca p r m))) s := by
  obtain ⟨⟨p, r, m, t1, t2, t3, n, hg, hp⟩, _, _⟩ := I.hok a _ h
  refine ⟨p, r, m, hp, inv_as I (by rw [h]; exact trivial) ⟨_, h⟩ ⟨by show 4 ≤ sizeLine; decide, [.ref ca, .int p t1, .int r t2, .int m t3], n, ?_, hg⟩⟩
  exact .cons rfl (.cons ⟨_, rfl⟩ (.cons ⟨_, rfl⟩ (.cons ⟨_, rfl⟩ .nil)))
theorem feed_out {ps : List (Addr × Obj)} {s : Shared} {a ca : Addr} {p r m : Int} (I : Inv X ps σ H s) (h : H a = some (.lst (feedL ca p r m))) (hp : 0 ≤ p) : Inv X ps σ (upd H a (FeedO a ca)) s := by
  obtain ⟨_, its, n, hv, hg⟩ := I.hok a _ h
  refine inv_as I (by rw [h]; exact trivial) ⟨_, h⟩ ⟨?_, ⟨_, hg⟩, ?_⟩
  · cases hv with
    | cons r0 hv =>
    cases hv with
    | cons r1 hv =>
    cases hv with
    | cons r2 hv =>
    cases hv with
    | cons r3 hv =>
    cases hv
    cases r0
    obtain ⟨t1, rfl⟩ := r1
    obtain ⟨t2, rfl⟩ := r2
    obtain ⟨t3, rfl⟩ := r3
    exact ⟨p, r, m, t1, t2, t3, n, hg, hp⟩
  · rintro h1 h2 ⟨p, r, m, t1, t2, t3, n, q, hp⟩ k
    exact ⟨p, r, m, t1, t2, t3, n, k _ q, hp⟩
/-- a def's body within which the feed is a list -/
def feedQ (a ca : Addr) (Q : VK) : VK := fun v H1 => ∃ p r m, H1 a = some (.lst (feedL ca p r m)) ∧ 0 ≤ p ∧ Q v (upd H1 a (FeedO a ca))
theorem b_feed {sts : List Stmt} {a ca : Addr} (h : H a = some (FeedO a ca)) (k : ∀ p r m : Int, 0 ≤ p → zB X sts (fun _ _ => False) (feedQ a ca rt) (fun _ _ => False) (fun _ _ => False) σ (upd H a (.lst (feedL ca p r m)))) : zB X sts nx rt bk ct σ H := by
  unfold zB at k ⊢
  intro ps s I
  obtain ⟨p, r, m, hp, I'⟩ := feed_in I h
  refine thn (k p r m hp ps s I') fun f s1 q => ?_
  cases f with
  | next => obtain ⟨_, _, _, z⟩ := q; exact z.elim
  | brk => obtain ⟨_, _, _, z⟩ := q; exact z.elim
  | cont => obtain ⟨_, _, _, z⟩ := q; exact z.elim
  | ret u => obtain ⟨v, σ', H1, I1, r1, p, r, m, h1, hp, q⟩ := q; exact ⟨v, σ', _, feed_out I1 h1 hp, r1, q⟩
end
/-- a draw gives any number below many, and leaves all as it is -/
def spDraw : Sp := fun vs H Q _ => ∃ (a : Addr) (n : Int), vs = [.ref a, .int n] ∧ Feed H a ∧ 0 < n ∧ n < 1073741824 ∧ ∀ d : Int, 0 ≤ d → d < n → Q (.int d) H
section
variable {P : Program} {w : World} {K : PySem.W.Frag} {mg : Str → Option Value} {base : Heap}
theorem ok_law_draw {f : Addr} {fd : FuncData} (F : FnP K "_law_draw" s_law_draw f fd) (mL : mg "len" = none) (mI : mg "int" = none) : FnOk P w K mg base CX0 1 f fd P_law_draw spDraw := by
  refine fn_ok F sc_law_draw (fun vs H Q E ⟨a, n, h, _⟩ => by rw [h]; rfl) fun X vs H Q E C hfn ⟨a, n, hv, hf, h0, h1, hq⟩ => ?_
  subst hv
  have n_feed_here : Nm X "_law_feed_here" 0 := C.nm rfl (by decide +kernel)
  have n_many : Nm X "_law_many" 1 := C.nm rfl (by decide +kernel)
  have n_cell : Nm X "_law_cell" 2 := C.nm rfl (by decide +kernel)
  have n_one : Nm X "_law_one" 3 := C.nm rfl (by decide +kernel)
  have n_two : Nm X "_law_two" 4 := C.nm rfl (by decide +kernel)
  have n_drawn : Nm X "_law_drawn" 5 := C.nm rfl (by decide +kernel)
  have w_cell : Ns X "_law_cell" 2 := C.ns rfl (by decide +kernel) (.inl (hfn _))
  have w_one : Ns X "_law_one" 3 := C.ns rfl (by decide +kernel) (.inl (hfn _))
  have w_two : Ns X "_law_two" 4 := C.ns rfl (by decide +kernel) (.inl (hfn _))
  have w_drawn : Ns X "_law_drawn" 5 := C.ns rfl (by decide +kernel) (.inl (hfn _))
  obtain ⟨ca, cells, ha, hc, hz⟩ := hf.ex
  have hne : ca ≠ a := ne_of hc ha (by intro z; cases z)
  refine b_feed ha fun p r m hp => ?_
  refine b_cons ?_
  kpc_turns
  have fin : ∀ (p r m : Int) (v : V), 0 ≤ p → Q v H → feedQ a ca Q v (upd H a (.lst (feedL ca p r m))) := fun p r m v hp q => ⟨p, r, m, upd_same, hp, by rw [upd_upd, upd_back ha]; exact q⟩
  refine if_d (fun h2 => ?_) fun h2 => ?_
  · kpc_turns
    have hl : (cells.map V.int).length = cells.length := List.length_map _
    rw [hl]
    have e1 : ∀ x : Int, -(2 ^ 64) < x % 2147483647 ∧ x % 2147483647 < 2 ^ 64 := fun x => by omega
    have fin2 : ∀ (p r m x : Int), 0 ≤ p → feedQ a ca Q (.int (x % n)) (upd H a (.lst (feedL ca p r m))) := fun p r m x hp => fin p r m _ hp (hq _ (Int.emod_nonneg _ (by omega)) (Int.emod_lt_of_pos _ h0))
    refine if_d (fun h3 => ?_) fun h3 => ?_
    · kpc_turns
      have hi : (p + 1 - 1).toNat < cells.length := by omega
      refine x_l (v := .int (cells[(p + 1 - 1).toNat])) (by kpt_turns) (at_ok (by omega) (by rw [List.getElem?_map, List.getElem?_eq_getElem hi]; rfl)) ?_
      kpc_turns
      refine if_d (fun h4 => ?_) fun h4 => ?_
      · rw [hl] at h4
        omega
      · kpc_turns
        refine if_d (fun h5 => ?_) fun h5 => ?_
        · kpc_turns
          refine o_mulR (e1 _) ?_
          kpc_turns
          exact fin2 (p + 1) r m _ (by omega)
        · kpc_turns
          exact fin2 (p + 1) _ m _ (by omega)
    · kpc_turns
      refine if_d (fun h4 => ?_) fun h4 => ?_
      · kpc_turns
        refine o_mulR (e1 _) ?_
        kpc_turns
        exact fin2 (p + 1) r m _ (by omega)
      · rw [hl] at h4
        omega
  · kpc_turns
    exact fin p (r / n) m _ hp (hq _ (Int.emod_nonneg _ (by omega)) (Int.emod_lt_of_pos _ h0))
/-- one of a row's: a text's sign, a list's item -/
def spAny (K : PySem.W.Frag) : Sp := fun vs H Q _ => ∃ (a : Addr) (y : V), vs = [.ref a, y] ∧ Feed H a ∧
  ((∃ z : Str, y = .str z ∧ tl z ≠ [] ∧ z.length ≤ 100000 ∧ ∀ c ∈ tl z, Q (.str ⟨#[c]⟩) H) ∨ ∃ l xs, y = .ref l ∧ SqL K H l xs ∧ xs ≠ [] ∧ xs.length ≤ 100000 ∧ ∀ x ∈ xs, Q x H)
theorem ok_law_any {f : Addr} {fd : FuncData} (F : FnP K "_law_any" s_law_any f fd) (mL : mg "len" = none) (cD : Cal P w K mg base CX0 "_law_draw" 1 2 spDraw) : FnOk P w K mg base CX0 2 f fd P_law_any (spAny K) := by
  refine fn_ok F sc_law_any (fun vs H Q E ⟨a, n, h, _⟩ => by rw [h]; rfl) fun X vs H Q E C hfn ⟨a, y, hv, hf, hq⟩ => ?_
  subst hv
  have n_feed_here : Nm X "_law_feed_here" 0 := C.nm rfl (by decide +kernel)
  have n_row : Nm X "_law_row" 1 := C.nm rfl (by decide +kernel)
  refine b_cons ?_
  rcases hq with ⟨z, rfl, hz0, hz, hq⟩ | ⟨l, xs, rfl, hl, hz0, hz, hq⟩
  · kpc_turns
    refine c_lenS (sz_le hz) ?_
    kpc_turns
    have h1 : 0 < (tl z).length := List.length_pos_iff.mpr hz0
    rw [lenI_tl]
    rw [len_tl] at hz
    refine ⟨a, _, rfl, hf, by omega, by omega, fun d h2 h3 => ?_⟩
    have hi : d.toNat < (tl z).length := by omega
    refine x_s (c := (tl z)[d.toNat]) (by rw [len_tl]; exact sz_le hz) (at_ok h2 (List.getElem?_eq_getElem hi)) (hq _ (List.getElem_mem hi))
  · kpc_turns
    refine c_lenL (by rw [C.frg]; exact hl) ?_
    kpc_turns
    have h1 : 0 < xs.length := List.length_pos_iff.mpr hz0
    refine ⟨a, _, rfl, hf, by omega, by omega, fun d h2 h3 => ?_⟩
    have hi : d.toNat < xs.length := by omega
    refine x_l (v := xs[d.toNat]) (by rw [C.frg]; exact hl) (at_ok h2 (List.getElem?_eq_getElem hi)) (hq _ (List.getElem_mem hi))
end

/-! lists by place -/
theorem getElem?_mapV {α : Type} {xs : List α} {f : α → V} {i : Nat} {v : V} (h : (xs.map f)[i]? = some v) : ∃ x, xs[i]? = some x ∧ v = f x := by
  rw [List.getElem?_map] at h
  cases e : xs[i]? with
  | none => rw [e] at h; cases h
  | some x => rw [e] at h; exact ⟨x, rfl, (Option.some.inj h).symm⟩
theorem map_range_get {α β : Type} (xs : List α) (d : α) (f : α → β) : (List.range xs.length).map (fun i => f (xs.getD i d)) = xs.map f := by
  apply List.ext_getElem
  · simp
  · intro i h1 h2
    simp at h1
    simp [List.getD, h1]
theorem getD_of {α : Type} {xs : List α} {i : Nat} {x d : α} (h : xs[i]? = some x) : xs.getD i d = x := by simp [List.getD, h]

/-! texts of one sign -/
def oneS (c : Nat) : Str := ⟨#[c]⟩
def oneV (c : Nat) : V := .str (oneS c)
theorem inV_one (c : Nat) : ∀ cs : List Nat, inV (oneV c) (cs.map oneV) = decide (c ∈ cs)
  | [] => rfl
  | d :: cs => by
    have ih := inV_one c cs
    unfold inV at ih ⊢
    rw [List.map_cons, List.any_cons, ih]
    have e : eqV (oneV d) (oneV c) = decide (c = d) := by
      have : eqV (oneV d) (oneV c) = (oneS d == oneS c) := rfl
      rw [this]
      by_cases h : c = d
      · subst h; simp
      · rw [decide_eq_false h]
        exact beq_eq_false_iff_ne.mpr fun z => h (by have := congrArg Str.cps z; simp [oneS] at this; exact this.symm)
    rw [e]
    simp [List.mem_cons, Bool.decide_or]
theorem flat_one (cs : List Nat) : (cs.map oneV).all flatV = true := by
  rw [List.all_map]
  exact List.all_eq_true.mpr fun _ _ => rfl
theorem rising_ones : ∀ (p : Nat) (es : List Nat), PyProof.Rows.risingS (oneS p) (es.map oneS) = true → (p :: es).Pairwise (· ≤ ·)
  | p, [], _ => by simp
  | p, x :: r, h => by
    rw [List.map_cons, PyProof.Rows.risingS, Bool.and_eq_true] at h
    have ih := rising_ones x r h.2
    have hle : p ≤ x := by
      have h1 := h.1
      show p ≤ x
      have : PySem.Spec.ltCps [x] [p] = false := by simpa [oneS] using h1
      simp [PySem.Spec.ltCps] at this
      exact this
    rw [List.pairwise_cons] at ih ⊢
    exact ⟨fun y hy => by
      rcases List.mem_cons.mp hy with rfl | hy
      · exact hle
      · exact Nat.le_trans hle (ih.1 y hy), List.pairwise_cons.mpr ih⟩
theorem join_nil : ∀ es : List Nat, tl (PySem.Str.join (Str.ofString "") (es.map oneS)) = es := by
  intro es
  have h := TL.tl_join (Str.ofString "") (es.map oneS)
  have e0 : TL.tl (Str.ofString "") = [] := by decide +kernel
  rw [e0, List.map_map] at h
  show TL.tl _ = _
  rw [h]
  have : ∀ es : List Nat, TL.joinL [] (es.map (TL.tl ∘ oneS)) = es := by
    intro es
    induction es with
    | nil => rfl
    | cons c r ih =>
      cases r with
      | nil => rfl
      | cons d r =>
        show [c] ++ ([] ++ TL.joinL [] ((d :: r).map (TL.tl ∘ oneS))) = _
        rw [ih]
        rfl
  exact this es
theorem map_oneV (cs : List Nat) : cs.map oneV = (cs.map oneS).map V.str := by rw [List.map_map]; rfl

/-! the law's feed made; drawn items -/
def spFeed (K : PySem.W.Frag) : Sp := fun vs H Q _ => ∃ (a : Addr) (ns : List Int), vs = [.ref a] ∧ SqL K H a (ns.map V.int) ∧ ns.length ≤ 1000 ∧ ∀ p H', Feed H' p → Ex H H' → Q (.ref p) H'
section
variable {X : Cx} {σ : St} {H : Hp} {Q : VK}
theorem e_feed {e : Expr} (h : zE X e σ H fun v H1 => ∃ a ca p r m, v = .ref a ∧ H1 a = some (.lst (feedL ca p r m)) ∧ 0 ≤ p ∧ Q v (upd H1 a (FeedO a ca))) : zE X e σ H Q := by
  unfold zE at h ⊢
  exact fun ps s I => thn (h ps s I) fun u s1 ⟨v, H1, I1, r1, a, ca, p, r, m, ev, h1, hp, q⟩ => ⟨v, _, feed_out I1 h1 hp, r1, q⟩
end
section
variable {P : Program} {w : World} {K : PySem.W.Frag} {mg : Str → Option Value} {base : Heap}
theorem ok_law_feed {f : Addr} {fd : FuncData} (F : FnP K "_law_feed" s_law_feed f fd) (mL : mg "len" = none) (mI : mg "int" = none) : FnOk P w K mg base CX0 1 f fd P_law_feed (spFeed K) := by
  refine fn_ok F sc_law_feed (fun vs H Q E ⟨a, n, h, _⟩ => by rw [h]; rfl) fun X vs H Q E C hfn ⟨a, ns, hv, hs, hn, hq⟩ => ?_
  subst hv
  have hs' : SqL X.K H a (ns.map V.int) := by rw [C.frg]; exact hs
  have n_script : Nm X "_law_script" 0 := C.nm rfl (by decide +kernel)
  have n_cells : Nm X "_law_cells" 1 := C.nm rfl (by decide +kernel)
  have n_cell : Nm X "_law_cell" 2 := C.nm rfl (by decide +kernel)
  have n_mark : Nm X "_law_mark" 3 := C.nm rfl (by decide +kernel)
  have w_cells : Ns X "_law_cells" 1 := C.ns rfl (by decide +kernel) (.inl (hfn _))
  have w_cell : Ns X "_law_cell" 2 := C.ns rfl (by decide +kernel) (.inl (hfn _))
  have w_mark : Ns X "_law_mark" 3 := C.ns rfl (by decide +kernel) (.inl (hfn _))
  refine b_cons ?_
  refine s_lc (own := [("_law_cell", 2)]) (i := 1) C (by decide +kernel) rfl (by decide +kernel) rfl rfl (by decide +kernel) (i_list ?_)
  kpc_turns
  refine l_sl hs' fun p H1 np e1 hp => ?_
  have hc : cutV (ns.map V.int) none (some 63) = (ns.take 63).map V.int := by
    have := cutV_take (ns.map V.int) 63
    rw [← List.map_take] at this
    exact this
  rw [hc] at hp
  obtain ⟨ms, hms⟩ : ∃ ms, ns.take 63 = ms := ⟨_, rfl⟩
  have hl : ms.length ≤ 63 := by rw [← hms]; simp; omega
  rw [hms] at hp
  refine ⟨p, rfl, ⟨_, SqL.of hp⟩, _, _, _, _, walk_list p (ms.map V.int), comp_map (j := 2) C (fun i => .int (ms.getD i 0)) (by simp; omega) (fun H' e => ex_l e (SqL.of hp)) rfl (by decide +kernel) (fun _ => rfl) ?_, ?_⟩
  · intro i v H' hi e2 hy X1 C1
    obtain ⟨x, hx, rfl⟩ := getElem?_mapV hy
    have hm : mg "int" = none := mI
    have n_cell : Nm X1 "_law_cell" 2 := C1.nm rfl (by decide +kernel)
    have w_cell : Ns X1 "_law_cell" 2 := C1.ns rfl (by decide +kernel) (.inr (by decide +kernel))
    kpc_turns
    exact ⟨Evl.Ex.refl _, by rw [getD_of hx]⟩
  · intro D ys H' nD e2 hD hy
    rw [List.length_map, map_range_get ms 0 V.int] at hy
    subst hy
    kpc_turns
    refine s_for C (i_list ?_)
    kpc_turns
    refine ⟨D, rfl, ⟨_, SqL.of hD⟩, _, _, _, fun i σ H2 => ∃ (m : Int) (o : Option V), σ = [some (.ref a), some (.ref D), o, some (.int m)] ∧ Ex H' H2, walk_list D _, ⟨_, none, rfl, Evl.Ex.refl _⟩, fun i σ H2 _ ⟨_, _, _, e⟩ => ex_l e (SqL.of hD), ?_, ?_⟩
    · rintro i x σ H2 H3 hi ⟨m, o, rfl, e3⟩ e4 hy
      obtain ⟨y, hy, rfl⟩ := getElem?_mapV hy
      kpc_turns
      exact ⟨_, _, rfl, e3.trans e4⟩
    · rintro σ H2 ⟨m, o, rfl, e3⟩
      kpc_turns
      refine e_feed (n_lst ?_)
      kpc_turns
      refine ⟨by show 4 ≤ sizeLine; decide, fun q H3 nq e4 hq3 => ⟨q, D, 0, 0, m, rfl, hq3, by omega, hq q _ ⟨D, ms, upd_same, ?_, by omega⟩ ?_⟩⟩
      · have : H3 D = some (.lst (ms.map V.int)) := e4 _ _ (e3 _ _ hD)
        rw [upd_ne (ne_of_none (e3 _ _ hD) nq)]
        exact this
      · exact Evl.Ex.mut ((e1.trans (e2.trans e3)).trans e4) (ex_n (e1.trans (e2.trans e3)) nq)

/-! the dedupe of a list of signs -/
end
theorem any_s {K : PySem.W.Frag} {a : Addr} {z : Str} {H : Hp} {Q : VK} {E : XK} (hf : Feed H a) (h : ∀ c ∈ tl z, Q (.str (oneS c)) H) (h0 : tl z ≠ [] := by decide +kernel) (h1 : z.length ≤ 100000 := by decide +kernel) : spAny K [.ref a, .str z] H Q E :=
  ⟨a, _, rfl, hf, .inl ⟨z, rfl, h0, h1, h⟩⟩
theorem any_l {K : PySem.W.Frag} {a l : Addr} {xs : List V} {H : Hp} {Q : VK} {E : XK} (hf : Feed H a) (hl : SqL K H l xs) (h0 : xs ≠ []) (h1 : xs.length ≤ 100000) (h : ∀ x ∈ xs, Q x H) : spAny K [.ref a, .ref l] H Q E :=
  ⟨a, _, rfl, hf, .inr ⟨l, xs, rfl, hl, h0, h1, h⟩⟩
theorem draw_n {a : Addr} {n : Int} {H : Hp} {Q : VK} {E : XK} (hf : Feed H a) (h0 : 0 < n) (h1 : n < 1073741824) (h : ∀ d : Int, 0 ≤ d → d < n → Q (.int d) H) : spDraw [.ref a, .int n] H Q E := ⟨a, n, rfl, hf, h0, h1, h⟩

/-! the law's arity -/
abbrev s_law_arity : Stmt := topS 78
abbrev N_law_arity : List Str := ["_law_letter"]
abbrev P_law_arity : List Str := ["_law_letter"]
theorem sc_law_arity : FnScope N_law_arity P_law_arity (defScope s_law_arity) := ⟨rfl, rfl, rfl, by decide +kernel, rfl, by decide +kernel, by decide +kernel⟩

section
variable {P : Program} {w : World} {K : PySem.W.Frag} {mg : Str → Option Value} {base : Heap}
theorem ok_law_arity {f : Addr} {fd : FuncData} (F : FnP K "_law_arity" s_law_arity f fd) : FnOk P w K mg base CX0 1 f fd P_law_arity spArity := by
  refine fn_ok F sc_law_arity (fun vs H Q E ⟨c, h, _⟩ => by rw [h]; rfl) fun X vs H Q E C hfn ⟨c, hv, hq⟩ => ?_
  subst hv
  have n_letter : Nm X "_law_letter" 0 := C.nm rfl (by decide +kernel)
  unfold ar at hq
  refine b_cons ?_
  kpc_turns
  refine if_d (fun hc => ?_) fun hc => ?_
  · rw [if_pos (show c ∈ tl zLeaves from hc)] at hq
    kpc_turns
    exact hq
  · rw [if_neg (show ¬ c ∈ tl zLeaves from hc)] at hq
    kpc_turns
    refine if_d (fun hd => ?_) fun hd => ?_
    · rw [if_pos (show c ∈ tl zSingles from hd)] at hq
      kpc_turns
      exact hq
    · rw [if_neg (show ¬ c ∈ tl zSingles from hd)] at hq
      kpc_turns
      exact hq
end

/-! drawn letters -/
abbrev s_law_letters : Stmt := topS 79
abbrev N_law_letters : List Str := ["_law_feed_here", "_law_found", "_law_k", "_law_at", "_law_one"]
abbrev P_law_letters : List Str := ["_law_feed_here"]
theorem sc_law_letters : FnScope N_law_letters P_law_letters (defScope s_law_letters) := ⟨rfl, rfl, rfl, by decide +kernel, rfl, by decide +kernel, by decide +kernel⟩

/-- how many have so many children -/
def qN (k : Nat) (cs : List Nat) : Nat := (cs.filter fun c => ar c == k).length
def Quo (cs : List Nat) (a b : Nat) : Prop := qN 0 cs ≤ 2 ∧ qN 1 cs ≤ a ∧ qN 2 cs ≤ b
theorem qN_app (k : Nat) (cs : List Nat) (c : Nat) : qN k (cs ++ [c]) = qN k cs + (if ar c == k then 1 else 0) := by
  unfold qN
  rw [List.filter_append, List.length_append]
  cases h : ar c == k <;> simp [h]
theorem qN_sub {k : Nat} {cs ds : List Nat} (h : cs.Sublist ds) : qN k cs ≤ qN k ds := (h.filter _).length_le
theorem qN_perm {k : Nat} {cs ds : List Nat} (h : cs.Perm ds) : qN k cs = qN k ds := (h.filter _).length_eq
theorem Quo.one {cs : List Nat} {a b c : Nat} (h : Quo cs a b) (hc : ar c = 1) : Quo (cs ++ [c]) (a + 1) b := by
  obtain ⟨h1, h2, h3⟩ := h
  unfold Quo
  rw [qN_app, qN_app, qN_app, hc]
  exact ⟨h1, Nat.add_le_add_right h2 1, h3⟩
theorem Quo.two {cs : List Nat} {a b c : Nat} (h : Quo cs a b) (hc : ar c = 2) : Quo (cs ++ [c]) a (b + 1) := by
  obtain ⟨h1, h2, h3⟩ := h
  unfold Quo
  rw [qN_app, qN_app, qN_app, hc]
  exact ⟨h1, h2, Nat.add_le_add_right h3 1⟩
theorem Quo.wide {cs : List Nat} {a b c d : Nat} (h : Quo cs a b) (h1 : a ≤ c) (h2 : b ≤ d) : Quo cs c d := ⟨h.1, Nat.le_trans h.2.1 h1, Nat.le_trans h.2.2 h2⟩
/-- what is drawn for letters -/
structure LettersOk (z : Str) : Prop where
  all : ∀ c ∈ tl z, c ∈ tl zLetters
  leaf : ∃ c ∈ tl z, c ∈ tl zLeaves
  lt : (tl z).Pairwise (· < ·)
  len : (tl z).length ≤ 6
  quo : Quo (tl z) 2 2
def spLetters : Sp := fun vs H Q _ => ∃ a, vs = [.ref a] ∧ Feed H a ∧ ∀ z H', LettersOk z → Ex H H' → Q (.str z) H'
section
variable {P : Program} {w : World} {K : PySem.W.Frag} {mg : Str → Option Value} {base : Heap}
def ddF (cs : List Nat) (i : Nat) : Bool := !decide (cs.getD i 0 ∈ cs.take i)
def dd (cs : List Nat) : List Nat := ((List.range cs.length).filter (ddF cs)).map fun i => cs.getD i 0
theorem dd_mem {cs : List Nat} {c : Nat} : c ∈ dd cs ↔ c ∈ cs := by
  unfold dd
  simp only [List.mem_map, List.mem_filter, List.mem_range]
  constructor
  · rintro ⟨i, ⟨hi, _⟩, rfl⟩
    simp [List.getD, hi]
  · intro h
    have : ∃ i : Nat, cs[i]? = some c := by
      obtain ⟨i, hi, e⟩ := List.getElem_of_mem h
      exact ⟨i, by rw [List.getElem?_eq_getElem hi, e]⟩
    have h2 : ∀ n : Nat, (∃ i : Nat, i < n ∧ cs[i]? = some c) → ∃ i : Nat, i < n ∧ cs[i]? = some c ∧ c ∉ cs.take i := by
      intro n
      induction n with
      | zero => rintro ⟨i, hi, _⟩; omega
      | succ n ih =>
        rintro ⟨i, hi, e⟩
        by_cases h3 : ∃ i : Nat, i < n ∧ cs[i]? = some c
        · obtain ⟨j, hj, a, b⟩ := ih h3
          exact ⟨j, by omega, a, b⟩
        · have : i = n := by
            by_cases hin : i < n
            · exact (h3 ⟨i, hin, e⟩).elim
            · omega
          subst this
          refine ⟨i, hi, e, fun hm => h3 ?_⟩
          obtain ⟨j, hj, e2⟩ := List.getElem_of_mem hm
          rw [List.length_take] at hj
          exact ⟨j, by omega, by rw [← e2, List.getElem_take, List.getElem?_eq_getElem]⟩
    obtain ⟨i, e⟩ := this
    obtain ⟨j, hj, a, b⟩ := h2 (i + 1) ⟨i, by omega, e⟩
    have hl := (List.getElem?_eq_some_iff.mp a).1
    have hg : cs.getD j 0 = c := by simp [List.getD, a]
    exact ⟨j, ⟨hl, by unfold ddF; rw [hg]; simpa using b⟩, hg⟩
theorem dd_len (cs : List Nat) : (dd cs).length ≤ cs.length := by
  unfold dd
  rw [List.length_map]
  exact Nat.le_trans (List.length_filter_le _ _) (by simp)
theorem dd_sub (cs : List Nat) : (dd cs).Sublist cs := by
  have h : (List.range cs.length).map (fun i => cs.getD i 0) = cs := by rw [map_range_get cs 0 (fun x => x), List.map_id']
  have h2 : (dd cs).Sublist ((List.range cs.length).map fun i => cs.getD i 0) := (List.filter_sublist (p := ddF cs) (l := List.range cs.length)).map _
  rw [h] at h2
  exact h2
theorem dd_nodup (cs : List Nat) : (dd cs).Nodup := by
  unfold dd
  have : ∀ n, n ≤ cs.length → (((List.range n).filter (ddF cs)).map fun i => cs.getD i 0).Nodup ∧ ∀ x ∈ ((List.range n).filter (ddF cs)).map (fun i => cs.getD i 0), x ∈ cs.take n := by
    intro n
    induction n with
    | zero => intro _; simp
    | succ n ih =>
      intro hn
      obtain ⟨h1, h2⟩ := ih (by omega)
      rw [List.range_succ, List.filter_append, List.map_append]
      have ht : cs.take (n + 1) = cs.take n ++ [cs.getD n 0] := by
        rw [List.take_succ, List.getElem?_eq_getElem (by omega)]
        simp [List.getD, show n < cs.length by omega]
      cases hf : ddF cs n with
      | false =>
        rw [List.filter_cons, hf]
        simp only [Bool.false_eq_true, if_false, List.filter_nil, List.map_nil, List.append_nil]
        exact ⟨h1, fun x hx => by rw [ht]; exact List.mem_append_left _ (h2 x hx)⟩
      | true =>
        rw [List.filter_cons, hf]
        simp only [if_true, List.filter_nil, List.map_cons, List.map_nil]
        refine ⟨List.nodup_append.mpr ⟨h1, by simp, fun x hx y hy e => ?_⟩, fun x hx => ?_⟩
        · unfold ddF at hf
          have hy' := List.mem_singleton.mp hy
          subst hy' e
          simp only [Bool.not_eq_true', decide_eq_false_iff_not] at hf
          exact hf (h2 _ hx)
        · rw [ht]
          rcases List.mem_append.mp hx with hx | hx
          · exact List.mem_append_left _ (h2 x hx)
          · exact List.mem_append_right _ hx
  exact (this cs.length (Nat.le_refl _)).1
structure Drawn (cs : List Nat) (n : Nat) : Prop where
  all : ∀ c ∈ cs, c ∈ tl zLetters
  leaf : ∃ c ∈ cs, c ∈ tl zLeaves
  len : cs.length ≤ n
theorem Drawn.more {cs : List Nat} {n c : Nat} (d : Drawn cs n) (h : c ∈ tl zLetters) : Drawn (cs ++ [c]) (n + 1) := by
  obtain ⟨x, h1, h2⟩ := d.leaf
  refine ⟨fun y hy => ?_, ⟨x, List.mem_append_left _ h1, h2⟩, by rw [List.length_append]; have := d.len; simp; omega⟩
  rcases List.mem_append.mp hy with hy | hy
  · exact d.all y hy
  · rw [List.mem_singleton.mp hy]; exact h
theorem Drawn.wide {cs : List Nat} {n m : Nat} (d : Drawn cs n) (h : n ≤ m) : Drawn cs m := ⟨d.all, d.leaf, Nat.le_trans d.len h⟩
/-- sorted and joined: the letters -/
theorem letters_end {cs : List Nat} (d : Drawn cs 6) (dq : Quo cs 2 2) {ys : List Str} (hp : ys.Perm ((dd cs).map oneS)) (hs : PyProof.Rows.sortedS ys = true) : LettersOk (PySem.Str.join (Str.ofString "") ys) ∧ (ys.map (·.length)).sum + ys.length * (Str.ofString "").length ≤ 16777216 := by
  obtain ⟨es, rfl⟩ : ∃ es : List Nat, ys = es.map oneS := by
    refine ⟨ys.map fun y => (tl y).headD 0, ?_⟩
    rw [List.map_map]
    have : ∀ y ∈ ys, (oneS ∘ fun y => (tl y).headD 0) y = y := fun y hy => by
      obtain ⟨c, _, rfl⟩ := List.mem_map.mp (hp.mem_iff.mp hy)
      rfl
    rw [List.map_congr_left this, List.map_id'']
    intro x; rfl
  have he : es.Perm (dd cs) := by
    have h2 := hp.map fun y => (tl y).headD 0
    rw [List.map_map, List.map_map] at h2
    have e : ∀ l : List Nat, l.map ((fun y => (tl y).headD 0) ∘ oneS) = l := fun l => by
      have : ((fun y => (tl y).headD 0) ∘ oneS) = id := rfl
      rw [this, List.map_id]
    rw [e, e] at h2
    exact h2
  have hlen : es.length ≤ 6 := by
    rw [he.length_eq]
    exact Nat.le_trans (dd_len cs) d.len
  have hle : es.Pairwise (· ≤ ·) := by
    cases es with
    | nil => exact .nil
    | cons p r => exact rising_ones p r hs
  have hnd : es.Nodup := he.nodup_iff.mpr (dd_nodup cs)
  refine ⟨⟨?_, ?_, ?_, ?_, ?_⟩, ?_⟩
  · rw [join_nil]
    exact fun c hc => d.all c (dd_mem.mp (he.mem_iff.mp hc))
  · rw [join_nil]
    obtain ⟨c, h1, h2⟩ := d.leaf
    exact ⟨c, he.mem_iff.mpr (dd_mem.mpr h1), h2⟩
  · rw [join_nil]
    exact (hle.and hnd).imp fun ⟨h1, h2⟩ => Nat.lt_of_le_of_ne h1 h2
  · rw [join_nil]; exact hlen
  · rw [join_nil]
    unfold Quo
    have hq : ∀ k, qN k (es) ≤ qN k cs := fun k => by rw [qN_perm he]; exact qN_sub (dd_sub cs)
    exact ⟨Nat.le_trans (hq 0) dq.1, Nat.le_trans (hq 1) dq.2.1, Nat.le_trans (hq 2) dq.2.2⟩
  · have e1 : ((es.map oneS).map (·.length)).sum = es.length := by
      rw [List.map_map]
      have : ((fun y : Str => y.length) ∘ oneS) = fun _ => 1 := rfl
      rw [this]
      clear hle hnd he hp hs hlen
      induction es with
      | nil => rfl
      | cons c r ih => rw [List.map_cons, List.sum_cons, ih, List.length_cons]; omega
    have e2 : (Str.ofString "").length = 0 := by decide +kernel
    rw [e1, e2]
    omega
theorem ok_law_letters {f : Addr} {fd : FuncData} (F : FnP K "_law_letters" s_law_letters f fd) (mR : mg "range" = none) (mE : mg "enumerate" = none) (mS : mg "sorted" = none)
    (cD : Cal P w K mg base CX0 "_law_draw" 1 2 spDraw) (cA : Cal P w K mg base CX0 "_law_any" 2 2 (spAny K)) : FnOk P w K mg base CX0 3 f fd P_law_letters spLetters := by
  refine fn_ok F sc_law_letters (fun vs H Q E ⟨a, h, _⟩ => by rw [h]; rfl) fun X vs H Q E C hfn ⟨a, hv, hf, hq⟩ => ?_
  subst hv
  have n_feed_here : Nm X "_law_feed_here" 0 := C.nm rfl (by decide +kernel)
  have n_found : Nm X "_law_found" 1 := C.nm rfl (by decide +kernel)
  have n_k : Nm X "_law_k" 2 := C.nm rfl (by decide +kernel)
  have w_found : Ns X "_law_found" 1 := C.ns rfl (by decide +kernel) (.inl (hfn _))
  have w_k : Ns X "_law_k" 2 := C.ns rfl (by decide +kernel) (.inl (hfn _))
  refine b_cons ?_
  kpc_turns
  refine n_lst ?_
  kpc_turns
  refine any_s hf fun c1 h1 => ?_
  kpc_turns
  refine any_s hf fun c2 h2 => ?_
  kpc_turns
  refine ⟨by show 2 ≤ sizeLine; decide, fun l H1 nl e1 hl => ?_⟩
  kpc_turns
  have sub0 : ∀ c ∈ tl zLeaves, c ∈ tl zLetters := by decide +kernel
  have d0 : Drawn [c1, c2] 2 := ⟨fun c hc => by
    rcases List.mem_cons.mp hc with rfl | hc
    · exact sub0 _ h1
    · rw [List.mem_singleton.mp hc]; exact sub0 _ h2, ⟨c1, List.mem_cons_self, h1⟩, Nat.le_refl _⟩
  have ar0 : ∀ c ∈ tl zLeaves, ar c = 0 := by decide +kernel
  have ar1 : ∀ c ∈ tl zSingles, ar c = 1 := by decide +kernel
  have ar2 : ∀ c ∈ tl (Str.ofString "qrstuvwxyz"), ar c = 2 := by decide +kernel
  have q0 : Quo [c1, c2] 0 0 := by
    unfold Quo qN
    simp [ar0 c1 h1, ar0 c2 h2]
  refine s_for C (i_range1 (C.gl (by decide +kernel)) (by rw [C.mgl]; exact mR) ?_)
  kpc_turns
  refine draw_n (hf.mono e1) (by omega) (by omega) fun n1 hn1 hn2 => ⟨n1, rfl, by omega, by omega, _, _, _, fun i σ H2 => ∃ cs o, σ = [some (.ref a), some (.ref l), o, none, none] ∧ H2 l = some (.lst (cs.map oneV)) ∧ Ex H H2 ∧ Drawn cs (2 + i) ∧ Quo cs i 0, walk_range 0 _, ⟨[c1, c2], none, rfl, hl, e1, d0, q0⟩, fun _ _ _ _ _ => trivial, ?_, ?_⟩
  · rintro i x σ H2 H3 hi ⟨cs, o, rfl, hl2, e2, d, dq⟩ e3 rfl
    kpc_turns
    refine ⟨l, _, rfl, e3 _ _ hl2, ?_⟩
    kpc_turns
    refine any_s ((hf.mono e2).mono e3) fun c hc => ⟨_, e3 _ _ hl2, small_lt ?_, fun H4 x4 hl4 => ?_⟩
    · rw [List.length_map]; have := d.len; omega
    kpc_turns
    have hc2 : c ∈ tl zLetters := (by decide +kernel : ∀ c ∈ tl zSingles, c ∈ tl zLetters) c hc
    exact ⟨cs ++ [c], _, rfl, by rw [List.map_append]; exact hl4, Xb.ex (e2.trans e3) nl x4, (d.more hc2).wide (by omega), dq.one (ar1 c hc)⟩
  · rintro σ H2 ⟨cs, o, rfl, hl2, e2, d, dq⟩
    kpc_turns
    refine s_for C (i_range1 (C.gl (by decide +kernel)) (by rw [C.mgl]; exact mR) ?_)
    kpc_turns
    refine draw_n (hf.mono e2) (by omega) (by omega) fun n2 hn3 hn4 => ⟨n2, rfl, by omega, by omega, _, _, _, fun i σ H2 => ∃ cs o, σ = [some (.ref a), some (.ref l), o, none, none] ∧ H2 l = some (.lst (cs.map oneV)) ∧ Ex H H2 ∧ Drawn cs (4 + i) ∧ Quo cs 2 i, walk_range 0 _, ⟨cs, o, rfl, hl2, e2, d.wide (by omega), dq.wide (by omega) (by omega)⟩, fun _ _ _ _ _ => trivial, ?_, ?_⟩
    · rintro i x σ H2 H3 hi ⟨cs, o, rfl, hl2, e2, d, dq⟩ e3 rfl
      kpc_turns
      refine ⟨l, _, rfl, e3 _ _ hl2, ?_⟩
      kpc_turns
      refine any_s ((hf.mono e2).mono e3) fun c hc => ⟨_, e3 _ _ hl2, small_lt ?_, fun H4 x4 hl4 => ?_⟩
      · rw [List.length_map]; have := d.len; omega
      kpc_turns
      have hc2 : c ∈ tl zLetters := (by decide +kernel : ∀ c ∈ tl (Str.ofString "qrstuvwxyz"), c ∈ tl zLetters) c hc
      exact ⟨cs ++ [c], _, rfl, by rw [List.map_append]; exact hl4, Xb.ex (e2.trans e3) nl x4, (d.more hc2).wide (by omega), dq.two (ar2 c hc)⟩
    · rintro σ H2 ⟨cs, o, rfl, hl2, e2, d, dq⟩
      have d6 : Drawn cs 6 := d.wide (by omega)
      kpc_turns
      refine e_lc (own := [("_law_at", 3), ("_law_one", 4)]) C (by decide +kernel) (i_enum (C.gl (by decide +kernel)) (by rw [C.mgl]; exact mE) ?_)
      kpc_turns
      refine ⟨l, _, rfl, SqL.of hl2, _, _, _, _, walk_enum l (cs.map oneV), comp_filterG C (fun i _ => [some (.ref a), some (.ref l), o, some (.int i), some (oneV (cs.getD i 0))]) (ddF cs) (fun i => oneV (cs.getD i 0)) (by rw [List.length_map]; have := d.len; omega) (fun H' e => ex_l e (SqL.of hl2)) ?_ ?_ ?_, ?_⟩
      · rintro i v H3 hi e3 ⟨T, y, rfl, hy, hT⟩ X1 C1
        obtain ⟨c, hc, rfl⟩ := getElem?_mapV hy
        have n_found : Nm X1 "_law_found" 1 := C1.nm rfl (by decide +kernel)
        have n_at : Nm X1 "_law_at" 3 := C1.nm rfl (by decide +kernel)
        have n_one : Nm X1 "_law_one" 4 := C1.nm rfl (by decide +kernel)
        have w_at : Ns X1 "_law_at" 3 := C1.ns rfl (by decide +kernel) (.inr (by decide +kernel))
        have w_one : Ns X1 "_law_one" 4 := C1.ns rfl (by decide +kernel) (.inr (by decide +kernel))
        refine g_tup C1 (SqT.of hT) ?_
        kpc_turns
        exact ⟨by rw [getD_of hc]; rfl, by rw [getD_of hc]; rfl, rfl⟩
      · rintro i v H3 hi e3 ⟨T, y, rfl, hy, hT⟩ X1 C1
        rw [List.length_map] at hi
        have n_found : Nm X1 "_law_found" 1 := C1.nm rfl (by decide +kernel)
        have n_at : Nm X1 "_law_at" 3 := C1.nm rfl (by decide +kernel)
        have n_one : Nm X1 "_law_one" 4 := C1.nm rfl (by decide +kernel)
        have w_at : Ns X1 "_law_at" 3 := C1.ns rfl (by decide +kernel) (.inr (by decide +kernel))
        have w_one : Ns X1 "_law_one" 4 := C1.ns rfl (by decide +kernel) (.inr (by decide +kernel))
        kpc_turns
        refine l_sl (SqL.of (e3 _ _ hl2)) fun p H4 np e4 hp => ?_
        rw [cutV_take, ← List.map_take] at hp
        refine o_ninL (SqL.of hp) rfl (flat_one _) ?_
        rw [inV_one]
        kpc_turns
        exact ⟨e4, rfl⟩
      · rintro i v H3 hi e3 ⟨T, y, rfl, hy, hT⟩ H4 e4 hb X1 C1
        have n_found : Nm X1 "_law_found" 1 := C1.nm rfl (by decide +kernel)
        have n_at : Nm X1 "_law_at" 3 := C1.nm rfl (by decide +kernel)
        have n_one : Nm X1 "_law_one" 4 := C1.nm rfl (by decide +kernel)
        have w_at : Ns X1 "_law_at" 3 := C1.ns rfl (by decide +kernel) (.inr (by decide +kernel))
        have w_one : Ns X1 "_law_one" 4 := C1.ns rfl (by decide +kernel) (.inr (by decide +kernel))
        kpc_turns
        exact ⟨Evl.Ex.refl _, rfl⟩
      · intro D ys H3 nD e3 hD hy
        have hy2 : ys = ((dd cs).map oneS).map V.str := by
          rw [hy, List.length_map, ← map_oneV]
          unfold dd
          rw [List.map_map]
          rfl
        refine c_sortedS (SqL.of (by rw [hD, hy2])) ?_ fun zs p H4 hp hs np e4 hz => ?_
        · rw [List.length_map]; have := dd_len cs; have := d6.len; omega
        obtain ⟨hL, hsz⟩ := letters_end d6 (dq.wide (by omega) (by omega)) hp hs
        exact ⟨p, zs, rfl, SqL.of hz, hsz, hq _ _ hL ((e2.trans e3).trans e4)⟩
end

/-! values whose kind is known; numbers, letters -/
abbrev s_is_whole : Stmt := topS 54
abbrev N_is_whole : List Str := ["thing"]
abbrev P_is_whole : List Str := ["thing"]
theorem sc_is_whole : FnScope N_is_whole P_is_whole (defScope s_is_whole) := ⟨rfl, rfl, rfl, by decide +kernel, rfl, by decide +kernel, by decide +kernel⟩
abbrev s_is_letter : Stmt := topS 56
abbrev N_is_letter : List Str := ["thing"]
abbrev P_is_letter : List Str := ["thing"]
theorem sc_is_letter : FnScope N_is_letter P_is_letter (defScope s_is_letter) := ⟨rfl, rfl, rfl, by decide +kernel, rfl, by decide +kernel, by decide +kernel⟩

def nV (n : Nat) : V := .int n
/-- a value whose kind is known -/
inductive Kn (H : Hp) : V → Prop
  | flat {v : V} (h : flat4 v = true) : Kn H v
  | tup {a : Addr} {xs : List V} (h : H a = some (.tup xs)) : Kn H (.ref a)
theorem Kn.ex {H H' : Hp} {v : V} (k : Kn H v) (e : Ex H H') : Kn H' v := by
  cases k with
  | flat h => exact .flat h
  | tup h => exact .tup (e _ _ h)
def wholeV : V → Bool
  | .int _ => true
  | _ => false
def roomV (r : Int) : V → Bool
  | .int i => decide (0 ≤ i) && decide (i < r)
  | _ => false
def letterV : V → Bool
  | .str z => (match tl z with
    | [c] => decide (c ∈ tl zLetters)
    | _ => false)
  | _ => false
theorem letterV_no {z : Str} (h : (tl z).length ≠ 1) : letterV (.str z) = false := by
  show (match tl z with
    | [c] => decide (c ∈ tl zLetters)
    | _ => false) = false
  cases e : tl z with
  | nil => rfl
  | cons c r =>
    cases r with
    | nil => rw [e] at h; exact absurd rfl h
    | cons d r => rfl
def spIsWhole : Sp := fun vs H Q _ => ∃ v, vs = [v] ∧ Kn H v ∧ Q (.bl (wholeV v)) H
def spIsLetter : Sp := fun vs H Q _ => ∃ v, vs = [v] ∧ Kn H v ∧ (∀ z, v = .str z → z.length ≤ 100000) ∧ Q (.bl (letterV v)) H
section
variable {P : Program} {w : World} {K : PySem.W.Frag} {mg : Str → Option Value} {base : Heap}
theorem ok_is_whole {f : Addr} {fd : FuncData} (F : FnP K "is_whole" s_is_whole f fd) (mI : mg "isinstance" = none) (m1 : mg "int" = none) (m2 : mg "bool" = none) : FnOk P w K mg base CX0 1 f fd P_is_whole spIsWhole := by
  refine fn_ok F sc_is_whole (fun vs H Q E ⟨c, h, _⟩ => by rw [h]; rfl) fun X vs H Q E C hfn ⟨v, hv, hk, hq⟩ => ?_
  subst hv
  have n_thing : Nm X "thing" 0 := C.nm rfl (by decide +kernel)
  cases hk with
  | tup h =>
    refine b_cons ?_
    kpc_turns
    exact hq
  | flat h =>
    cases v with
    | non => refine b_cons ?_; kpc_turns; exact hq
    | bl b => refine b_cons ?_; kpc_turns; exact hq
    | int i => refine b_cons ?_; kpc_turns; exact hq
    | str z => refine b_cons ?_; kpc_turns; exact hq
    | _ => cases h
theorem ok_is_letter {f : Addr} {fd : FuncData} (F : FnP K "is_letter" s_is_letter f fd) (mI : mg "isinstance" = none) (m3 : mg "str" = none) (mL : mg "len" = none) (g : Gs mg "LETTERS" zLetters) : FnOk P w K mg base CX0 1 f fd P_is_letter spIsLetter := by
  refine fn_ok F sc_is_letter (fun vs H Q E ⟨c, h, _⟩ => by rw [h]; rfl) fun X vs H Q E C hfn ⟨v, hv, hk, hl, hq⟩ => ?_
  subst hv
  have n_thing : Nm X "thing" 0 := C.nm rfl (by decide +kernel)
  cases hk with
  | tup h =>
    refine b_cons ?_
    kpc_turns
    exact hq
  | flat h =>
    cases v with
    | non => refine b_cons ?_; kpc_turns; exact hq
    | bl b => refine b_cons ?_; kpc_turns; exact hq
    | int i => refine b_cons ?_; kpc_turns; exact hq
    | str z =>
      refine b_cons ?_
      kpc_turns
      refine c_lenS (sz_le (hl z rfl)) ?_
      kpc_turns
      refine if_d (fun h1 => ?_) fun h1 => ?_
      · have h1 : (tl z).length = 1 := by rw [len_tl] at h1; omega
        obtain ⟨c, hc⟩ := List.length_eq_one_iff.mp h1
        have hz : z = ⟨#[c]⟩ := ext_tl (by rw [hc])
        subst hz
        kpc_turns
        exact hq
      · have h1 : (tl z).length ≠ 1 := by rw [len_tl] at h1; omega
        rw [letterV_no h1] at hq
        exact hq
    | _ => cases h
end
/-- the tuple's items are known -/
structure KnT (H : Hp) (xs : List V) : Prop where
  len : xs.length ≤ 100000
  kn : ∀ x ∈ xs, Kn H x
  txt : ∀ z, V.str z ∈ xs → z.length ≤ 100000
theorem KnT.ex {H H' : Hp} {xs : List V} (k : KnT H xs) (e : Ex H H') : KnT H' xs := ⟨k.len, fun x hx => (k.kn x hx).ex e, k.txt⟩
def arV : V → Nat
  | .str z => ar ((tl z).headD 0)
  | _ => 0
theorem letterV_yes {l : V} (h : letterV l = true) : ∃ c, l = .str ⟨#[c]⟩ ∧ c ∈ tl zLetters := by
  cases l with
  | str z =>
    by_cases h1 : (tl z).length = 1
    · obtain ⟨c, hc⟩ := List.length_eq_one_iff.mp h1
      have hz : z = ⟨#[c]⟩ := ext_tl (by rw [hc])
      subst hz
      exact ⟨c, rfl, of_decide_eq_true h⟩
    · rw [letterV_no h1] at h
      cases h
  | _ => cases h

/-! what a rule and a move are -/
abbrev s_is_room : Stmt := topS 55
abbrev N_is_room : List Str := ["thing", "rooms"]
abbrev P_is_room : List Str := ["thing", "rooms"]
theorem sc_is_room : FnScope N_is_room P_is_room (defScope s_is_room) := ⟨rfl, rfl, rfl, by decide +kernel, rfl, by decide +kernel, by decide +kernel⟩
abbrev s_is_rule : Stmt := topS 57
abbrev N_is_rule : List Str := ["thing", "rooms", "letter", "inner", "room", "price", "one"]
abbrev P_is_rule : List Str := ["thing", "rooms"]
theorem sc_is_rule : FnScope N_is_rule P_is_rule (defScope s_is_rule) := ⟨rfl, rfl, rfl, by decide +kernel, rfl, by decide +kernel, by decide +kernel⟩
abbrev s_is_move : Stmt := topS 58
abbrev N_is_move : List Str := ["thing", "rooms"]
abbrev P_is_move : List Str := ["thing", "rooms"]
theorem sc_is_move : FnScope N_is_move P_is_move (defScope s_is_move) := ⟨rfl, rfl, rfl, by decide +kernel, rfl, by decide +kernel, by decide +kernel⟩

def spIsRoom : Sp := fun vs H Q _ => ∃ v r, vs = [v, .int r] ∧ Kn H v ∧ Q (.bl (roomV r v)) H
section
variable {P : Program} {w : World} {K : PySem.W.Frag} {mg : Str → Option Value} {base : Heap}
theorem ok_is_room {f : Addr} {fd : FuncData} (F : FnP K "is_room" s_is_room f fd) (cW : Cal P w K mg base CX0 "is_whole" 1 1 spIsWhole) : FnOk P w K mg base CX0 2 f fd P_is_room spIsRoom := by
  refine fn_ok F sc_is_room (fun vs H Q E ⟨c, r, h, _⟩ => by rw [h]; rfl) fun X vs H Q E C hfn ⟨v, r, hv, hk, hq⟩ => ?_
  subst hv
  have n_thing : Nm X "thing" 0 := C.nm rfl (by decide +kernel)
  have n_rooms : Nm X "rooms" 1 := C.nm rfl (by decide +kernel)
  refine b_cons ?_
  kpc_turns
  refine ⟨v, rfl, hk, ?_⟩
  cases v with
  | int i =>
    kpc_turns
    refine if_d (fun h => ?_) fun h => ?_
    · kpc_turns
      have hq : Q (.bl (decide (0 ≤ i) && decide (i < r))) H := hq
      rw [decide_eq_true h, Bool.true_and] at hq
      exact hq
    · have hq : Q (.bl (decide (0 ≤ i) && decide (i < r))) H := hq
      rw [decide_eq_false h, Bool.false_and] at hq
      exact hq
  | _ =>
    kpc_turns
    exact hq
def needsV (H : Hp) (r : Int) (l : V) : V → Bool
  | .ref b => (match H b with
    | some (.tup ns) => decide (ns.length = arV l) && ns.all (roomV r)
    | _ => false)
  | _ => false
def priceV (m : Int) : V → Bool
  | .int p => decide (m ≤ p) && decide (p ≤ 99)
  | _ => false
def ruleV (H : Hp) (r : Int) : List V → Bool
  | [l, n, m, p] => letterV l && (needsV H r l n && (roomV r m && priceV 1 p))
  | _ => false
theorem ruleV_len {H : Hp} {r : Int} : ∀ {xs : List V}, xs.length ≠ 4 → ruleV H r xs = false
  | [], _ => rfl
  | [_], _ => rfl
  | [_, _], _ => rfl
  | [_, _, _], _ => rfl
  | [_, _, _, _], h => absurd rfl h
  | _ :: _ :: _ :: _ :: _ :: _, _ => rfl
def spIsRule : Sp := fun vs H Q _ => ∃ a xs r, vs = [.ref a, .int r] ∧ H a = some (.tup xs) ∧ KnT H xs ∧ (∀ b ns, V.ref b ∈ xs → H b = some (.tup ns) → KnT H ns) ∧ ∀ H', Ex H H' → Q (.bl (ruleV H r xs)) H'
theorem ok_is_rule {f : Addr} {fd : FuncData} (F : FnP K "is_rule" s_is_rule f fd) (mI : mg "isinstance" = none) (m5 : mg "tuple" = none) (mL : mg "len" = none) (mA : mg "all" = none) (g : Gi mg "MOST_PRICE" 99) (cL : Cal P w K mg base CX0 "is_letter" 1 1 spIsLetter) (cW : Cal P w K mg base CX0 "is_whole" 1 1 spIsWhole)
    (cR : Cal P w K mg base CX0 "is_room" 2 2 spIsRoom) (cA : Cal P w K mg base CX0 "arity" 1 1 spArity) : FnOk P w K mg base CX0 3 f fd P_is_rule spIsRule := by
  refine fn_ok F sc_is_rule (fun vs H Q E ⟨c, xs, r, h, _⟩ => by rw [h]; rfl) fun X vs H Q E C hfn ⟨a, xs, r, hv, ha, hk, hn, hq⟩ => ?_
  subst hv
  have n_thing : Nm X "thing" 0 := C.nm rfl (by decide +kernel)
  have n_rooms : Nm X "rooms" 1 := C.nm rfl (by decide +kernel)
  have n_letter : Nm X "letter" 2 := C.nm rfl (by decide +kernel)
  have n_inner : Nm X "inner" 3 := C.nm rfl (by decide +kernel)
  have n_room : Nm X "room" 4 := C.nm rfl (by decide +kernel)
  have n_price : Nm X "price" 5 := C.nm rfl (by decide +kernel)
  have w_letter : Ns X "letter" 2 := C.ns rfl (by decide +kernel) (.inl (hfn _))
  have w_inner : Ns X "inner" 3 := C.ns rfl (by decide +kernel) (.inl (hfn _))
  have w_room : Ns X "room" 4 := C.ns rfl (by decide +kernel) (.inl (hfn _))
  have w_price : Ns X "price" 5 := C.ns rfl (by decide +kernel) (.inl (hfn _))
  refine b_cons ?_
  kpc_turns
  have hq0 := hq H (Evl.Ex.refl _)
  refine if_nd (fun h4 => ?_) fun h4 => ?_
  · kpc_turns
    rw [ruleV_len (by omega)] at hq0
    exact hq0
  obtain ⟨l, n, m, p, rfl⟩ : ∃ l n m p, xs = [l, n, m, p] := by
    match xs, (by omega : xs.length = 4) with
    | [l, n, m, p], _ => exact ⟨l, n, m, p, rfl⟩
  have kl := hk.kn l (by simp)
  have kn := hk.kn n (by simp)
  have km := hk.kn m (by simp)
  have kp := hk.kn p (by simp)
  kpc_turns
  refine ⟨l, rfl, kl, fun z e => hk.txt z (by rw [← e]; simp), ?_⟩
  cases hl : letterV l with
  | false =>
    kpc_turns
    have : ruleV H r [l, n, m, p] = false := by
      show (letterV l && _) = false
      rw [hl, Bool.false_and]
    rw [this] at hq0
    exact hq0
  | true =>
  obtain ⟨c, rfl, hc⟩ := letterV_yes hl
  have hr : ruleV H r [.str ⟨#[c]⟩, n, m, p] = (needsV H r (.str ⟨#[c]⟩) n && (roomV r m && priceV 1 p)) := by
    show (letterV _ && _) = _
    rw [hl, Bool.true_and]
  rw [hr] at hq0
  cases kn with
  | flat hf =>
    have : needsV H r (.str ⟨#[c]⟩) n = false := by cases n <;> first | rfl | cases hf
    rw [this, Bool.false_and] at hq0
    cases n with
    | non => kpc_turns; exact hq0
    | bl b => kpc_turns; exact hq0
    | int i => kpc_turns; exact hq0
    | str z => kpc_turns; exact hq0
    | _ => cases hf
  | @tup b ns hb =>
  have knn := hn b ns (by simp) hb
  have hN : needsV H r (.str ⟨#[c]⟩) (.ref b) = (decide (ns.length = ar c) && ns.all (roomV r)) := by
    show (match H b with
    | some (.tup ns) => decide (ns.length = arV (.str ⟨#[c]⟩)) && ns.all (roomV r)
    | _ => false) = _
    rw [hb]
    rfl
  rw [hN] at hq0
  kpc_turns
  refine g_tup C (SqT.of ha) ?_
  kpc_turns
  refine ⟨c, rfl, ?_⟩
  kpc_turns
  refine if_nd (fun h5 => ?_) fun h5 => ?_
  · kpc_turns
    rw [decide_eq_false (by omega : ¬ ns.length = ar c), Bool.false_and, Bool.false_and] at hq0
    exact hq0
  rw [decide_eq_true (by omega : ns.length = ar c), Bool.true_and] at hq0
  have hq1 : ∀ H', Ex H H' → Q (.bl (ns.all (roomV r) && (roomV r m && priceV 1 p))) H' := fun H' e => by
    have := hq H' e
    rw [hr, hN, decide_eq_true (by omega : ns.length = ar c), Bool.true_and] at this
    exact this
  kpc_turns
  refine e_lc (own := [("one", 6)]) C (by decide +kernel) (i_tup ?_)
  kpc_turns
  refine ⟨b, rfl, ⟨_, SqT.of hb⟩, _, _, _, _, walk_tup b ns, comp_map (j := 6) C (fun i => .bl (roomV r (ns.getD i .non))) knn.len (fun H' e => ex_t e (SqT.of hb)) rfl (by decide +kernel) (fun _ => rfl) ?_, ?_⟩
  · intro i v H' hi e hy X1 C1
    have n_rooms : Nm X1 "rooms" 1 := C1.nm rfl (by decide +kernel)
    have n_one : Nm X1 "one" 6 := C1.nm rfl (by decide +kernel)
    have w_one : Ns X1 "one" 6 := C1.ns rfl (by decide +kernel) (.inr (by decide +kernel))
    kpc_turns
    exact ⟨v, r, rfl, (knn.kn v (List.mem_of_getElem? hy)).ex e, Evl.Ex.refl _, by rw [getD_of hy]⟩
  · intro D ys H1 nD e1 hD hy
    rw [map_range_get ns .non (fun v => V.bl (roomV r v))] at hy
    have hq2 := hq1 H1 e1
    refine c_all (bs := ns.map (roomV r)) C.calm (SqL.of (by rw [hD, hy, List.map_map]; rfl)) ?_
    have : (ns.map (roomV r)).all id = ns.all (roomV r) := by rw [List.all_map]; rfl
    rw [this]
    cases ha2 : ns.all (roomV r) with
    | false =>
      rw [ha2, Bool.false_and] at hq2
      kpc_turns
      exact hq2
    | true =>
      rw [ha2, Bool.true_and] at hq2
      kpc_turns
      refine ⟨m, r, rfl, km.ex e1, ?_⟩
      cases hm : roomV r m with
      | false =>
        rw [hm, Bool.false_and] at hq2
        kpc_turns
        exact hq2
      | true =>
        rw [hm, Bool.true_and] at hq2
        kpc_turns
        refine ⟨p, rfl, kp.ex e1, ?_⟩
        cases p with
        | int p =>
          kpc_turns
          have hp : priceV 1 (.int p) = (decide (1 ≤ p) && decide (p ≤ 99)) := rfl
          rw [hp] at hq2
          refine if_d (fun h => ?_) fun h => ?_
          · rw [decide_eq_true h, Bool.true_and] at hq2
            kpc_turns
            exact hq2
          · rw [decide_eq_false h, Bool.false_and] at hq2
            exact hq2
        | _ =>
          kpc_turns
          exact hq2
def moveV (r : Int) : List V → Bool
  | [x, y, p] => roomV r x && (roomV r y && (!decide (x = y) && priceV 0 p))
  | _ => false
theorem moveV_len {r : Int} : ∀ {xs : List V}, xs.length ≠ 3 → moveV r xs = false
  | [], _ => rfl
  | [_], _ => rfl
  | [_, _], _ => rfl
  | [_, _, _], h => absurd rfl h
  | _ :: _ :: _ :: _ :: _, _ => rfl
theorem roomV_yes {r : Int} {v : V} (h : roomV r v = true) : ∃ i : Int, v = .int i ∧ 0 ≤ i ∧ i < r := by
  cases v with
  | int i =>
    have h : (decide (0 ≤ i) && decide (i < r)) = true := h
    rw [Bool.and_eq_true] at h
    exact ⟨i, rfl, of_decide_eq_true h.1, of_decide_eq_true h.2⟩
  | _ => cases h
def spIsMove : Sp := fun vs H Q _ => ∃ a xs r, vs = [.ref a, .int r] ∧ H a = some (.tup xs) ∧ KnT H xs ∧ Q (.bl (moveV r xs)) H
theorem ok_is_move {f : Addr} {fd : FuncData} (F : FnP K "is_move" s_is_move f fd) (mL : mg "len" = none) (g : Gi mg "MOST_PRICE" 99) (cW : Cal P w K mg base CX0 "is_whole" 1 1 spIsWhole)
    (cR : Cal P w K mg base CX0 "is_room" 2 2 spIsRoom) : FnOk P w K mg base CX0 3 f fd P_is_move spIsMove := by
  refine fn_ok F sc_is_move (fun vs H Q E ⟨c, xs, r, h, _⟩ => by rw [h]; rfl) fun X vs H Q E C hfn ⟨a, xs, r, hv, ha, hk, hq⟩ => ?_
  subst hv
  have n_thing : Nm X "thing" 0 := C.nm rfl (by decide +kernel)
  have n_rooms : Nm X "rooms" 1 := C.nm rfl (by decide +kernel)
  refine b_cons ?_
  kpc_turns
  refine if_nd (fun h3 => ?_) fun h3 => ?_
  · kpc_turns
    rw [moveV_len (by omega)] at hq
    exact hq
  obtain ⟨x, y, p, rfl⟩ : ∃ x y p, xs = [x, y, p] := by
    match xs, (by omega : xs.length = 3) with
    | [x, y, p], _ => exact ⟨x, y, p, rfl⟩
  have kx := hk.kn x (by simp)
  have ky := hk.kn y (by simp)
  have kp := hk.kn p (by simp)
  have hm : moveV r [x, y, p] = (roomV r x && (roomV r y && (!decide (x = y) && priceV 0 p))) := rfl
  rw [hm] at hq
  kpc_turns
  refine ⟨x, r, rfl, kx, ?_⟩
  cases hx : roomV r x with
  | false =>
    rw [hx, Bool.false_and] at hq
    kpc_turns
    exact hq
  | true =>
  rw [hx, Bool.true_and] at hq
  kpc_turns
  refine ⟨y, r, rfl, ky, ?_⟩
  cases hy : roomV r y with
  | false =>
    rw [hy, Bool.false_and] at hq
    kpc_turns
    exact hq
  | true =>
  rw [hy, Bool.true_and] at hq
  obtain ⟨i, rfl, i0, i1⟩ := roomV_yes hx
  obtain ⟨j, rfl, j0, j1⟩ := roomV_yes hy
  have he : decide (V.int i = V.int j) = decide (i = j) := dec_cg ⟨fun e => V.int.inj e, fun e => by rw [e]⟩
  rw [he] at hq
  kpc_turns
  refine if_d (fun h => ?_) fun h => ?_
  · rw [decide_eq_true h] at hq
    kpc_turns
    exact hq
  rw [decide_eq_false h] at hq
  kpc_turns
  refine ⟨p, rfl, kp, ?_⟩
  cases p with
  | int p =>
    have hp : priceV 0 (.int p) = (decide (0 ≤ p) && decide (p ≤ 99)) := rfl
    rw [hp] at hq
    kpc_turns
    refine if_d (fun h => ?_) fun h => ?_
    · rw [decide_eq_true h] at hq
      kpc_turns
      exact hq
    · rw [decide_eq_false h] at hq
      exact hq
  | _ =>
    kpc_turns
    exact hq
end

/-! ways between rooms, plainly -/
/-- price, number of rooms, rooms -/
abbrev Way := Nat × Nat × List Nat
abbrev Mv := Nat × Nat × Nat
def lexN : List Nat → List Nat → Bool
  | [], [] => false
  | [], _ :: _ => true
  | _ :: _, [] => false
  | x :: xs, y :: ys => if x = y then lexN xs ys else decide (x < y)
theorem lexN_irr : ∀ xs, lexN xs xs = false
  | [] => rfl
  | x :: xs => by unfold lexN; rw [if_pos rfl]; exact lexN_irr xs
theorem lexN_trans : ∀ {xs ys zs : List Nat}, lexN xs ys = true → lexN ys zs = true → lexN xs zs = true
  | [], [], _, h, _ => by cases h
  | [], _ :: _, [], _, h => by cases h
  | [], _ :: _, _ :: _, _, _ => rfl
  | _ :: _, [], _, h, _ => by cases h
  | _ :: _, _ :: _, [], _, h => by cases h
  | x :: xs, y :: ys, z :: zs, h1, h2 => by
    unfold lexN at h1 h2 ⊢
    by_cases e1 : x = y
    · subst e1
      rw [if_pos rfl] at h1
      by_cases e2 : x = z
      · subst e2
        rw [if_pos rfl] at h2 ⊢
        exact lexN_trans h1 h2
      · rw [if_neg e2] at h2 ⊢
        exact h2
    · rw [if_neg e1] at h1
      have h1 := of_decide_eq_true h1
      by_cases e2 : y = z
      · subst e2
        rw [if_neg e1]
        exact decide_eq_true h1
      · rw [if_neg e2] at h2
        have h2 := of_decide_eq_true h2
        rw [if_neg (by omega)]
        exact decide_eq_true (by omega)
theorem lexN_tri : ∀ {xs ys : List Nat}, lexN xs ys = false → lexN ys xs = false → xs = ys
  | [], [], _, _ => rfl
  | [], _ :: _, h, _ => by cases h
  | _ :: _, [], _, h => by cases h
  | x :: xs, y :: ys, h1, h2 => by
    unfold lexN at h1 h2
    by_cases e : x = y
    · subst e
      rw [if_pos rfl] at h1 h2
      rw [lexN_tri h1 h2]
    · rw [if_neg e] at h1
      rw [if_neg (fun z => e z.symm)] at h2
      have h1 := of_decide_eq_false h1
      have h2 := of_decide_eq_false h2
      omega
def ltW (p q : Way) : Bool := if p.1 = q.1 then (if p.2.1 = q.2.1 then lexN p.2.2 q.2.2 else decide (p.2.1 < q.2.1)) else decide (p.1 < q.1)
theorem ltW_irr (p : Way) : ltW p p = false := by unfold ltW; rw [if_pos rfl, if_pos rfl]; exact lexN_irr _
theorem ltW_trans {p q r : Way} (h1 : ltW p q = true) (h2 : ltW q r = true) : ltW p r = true := by
  unfold ltW at h1 h2 ⊢
  by_cases e1 : p.1 = q.1
  · rw [if_pos e1] at h1
    by_cases e2 : q.1 = r.1
    · rw [if_pos e2] at h2
      rw [if_pos (e1.trans e2)]
      by_cases f1 : p.2.1 = q.2.1
      · rw [if_pos f1] at h1
        by_cases f2 : q.2.1 = r.2.1
        · rw [if_pos f2] at h2
          rw [if_pos (f1.trans f2)]
          exact lexN_trans h1 h2
        · rw [if_neg f2] at h2
          rw [if_neg (by rw [f1]; exact f2), f1]
          exact h2
      · rw [if_neg f1] at h1
        have h1 := of_decide_eq_true h1
        by_cases f2 : q.2.1 = r.2.1
        · rw [if_neg (by rw [← f2]; exact f1), ← f2]
          exact decide_eq_true h1
        · rw [if_neg f2] at h2
          have h2 := of_decide_eq_true h2
          rw [if_neg (by omega)]
          exact decide_eq_true (by omega)
    · rw [if_neg e2] at h2
      rw [if_neg (by rw [e1]; exact e2), e1]
      exact h2
  · rw [if_neg e1] at h1
    have h1 := of_decide_eq_true h1
    by_cases e2 : q.1 = r.1
    · rw [if_neg (by rw [← e2]; exact e1), ← e2]
      exact decide_eq_true h1
    · rw [if_neg e2] at h2
      have h2 := of_decide_eq_true h2
      rw [if_neg (by omega)]
      exact decide_eq_true (by omega)
theorem ltW_tri {p q : Way} (h1 : ltW p q = false) (h2 : ltW q p = false) : p = q := by
  unfold ltW at h1 h2
  by_cases e1 : p.1 = q.1
  · rw [if_pos e1] at h1
    rw [if_pos e1.symm] at h2
    by_cases f1 : p.2.1 = q.2.1
    · rw [if_pos f1] at h1
      rw [if_pos f1.symm] at h2
      exact Prod.ext e1 (Prod.ext f1 (lexN_tri h1 h2))
    · rw [if_neg f1] at h1
      rw [if_neg (fun z => f1 z.symm)] at h2
      have h1 := of_decide_eq_false h1
      have h2 := of_decide_eq_false h2
      omega
  · rw [if_neg e1] at h1
    rw [if_neg (fun z => e1 z.symm)] at h2
    have h1 := of_decide_eq_false h1
    have h2 := of_decide_eq_false h2
    omega
/-! ### the ways that go on -/
def goalW (w : List Nat) : Nat := w.getLast?.getD 0
def goP (p : Way) (m : Mv) : Bool := decide (m.1 = goalW p.2.2) && !decide (m.2.1 ∈ p.2.2)
def onW (p : Way) (m : Mv) : Way := (p.1 + m.2.2, p.2.1 + 1, p.2.2 ++ [m.2.1])
def extW (mv : List Mv) (p : Way) : List Way := (mv.filter (goP p)).map (onW p)
def allW (mv : List Mv) : Nat → Way → List Way
  | 0, p => [p]
  | n + 1, p => p :: (extW mv p).flatMap (allW mv n)
def cntW : Nat → Nat
  | 0 => 1
  | n + 1 => 1 + 12 * cntW n
theorem allW_len {mv : List Mv} (hm : mv.length ≤ 12) : ∀ (n : Nat) (p : Way), (allW mv n p).length ≤ cntW n
  | 0, p => Nat.le_refl 1
  | n + 1, p => by
    show ((extW mv p).flatMap (allW mv n)).length + 1 ≤ 1 + 12 * cntW n
    have h : ∀ l : List Way, (l.flatMap (allW mv n)).length ≤ l.length * cntW n := fun l => by
      induction l with
      | nil => simp
      | cons x l ih =>
        rw [List.flatMap_cons, List.length_append, List.length_cons, Nat.succ_mul]
        have := allW_len hm n x
        omega
    have h1 := h (extW mv p)
    have h2 : (extW mv p).length ≤ 12 := by
      unfold extW
      rw [List.length_map]
      exact Nat.le_trans (List.length_filter_le _ _) hm
    have h3 : (extW mv p).length * cntW n ≤ 12 * cntW n := Nat.mul_le_mul_right _ h2
    omega
/-- a way through rooms below r, none twice -/
structure Simple (r : Nat) (p : Way) : Prop where
  size : p.2.1 = p.2.2.length
  nd : p.2.2.Nodup
  lt : ∀ x ∈ p.2.2, x < r
  ne : p.2.2 ≠ []
theorem pigeon : ∀ (r : Nat) (l : List Nat), l.Nodup → (∀ x ∈ l, x < r) → l.length ≤ r
  | 0, l, _, h => by
    cases l with
    | nil => exact Nat.le_refl 0
    | cons x l => exact absurd (h x (List.mem_cons_self ..)) (Nat.not_lt_zero _)
  | r + 1, l, nd, h => by
    have h1 := pigeon r (l.erase r) (nd.erase r) fun x hx => by
      have h2 := (List.Nodup.mem_erase_iff nd).mp hx
      have := h x h2.2
      have := h2.1
      omega
    by_cases hr : r ∈ l
    · rw [List.length_erase_of_mem hr] at h1
      omega
    · rw [List.erase_of_not_mem hr] at h1
      omega
theorem Simple.le {r : Nat} {p : Way} (s : Simple r p) : p.2.1 ≤ r := by rw [s.size]; exact pigeon r _ s.nd s.lt
theorem Simple.ext {r : Nat} {p : Way} {m : Mv} (s : Simple r p) (hm : m.2.1 < r) (h : goP p m = true) : Simple r (onW p m) := by
  unfold goP at h
  rw [Bool.and_eq_true, Bool.not_eq_true'] at h
  have h2 := of_decide_eq_false h.2
  refine ⟨by show p.2.1 + 1 = (p.2.2 ++ [m.2.1]).length; rw [List.length_append, s.size]; rfl, ?_, fun x hx => ?_, ?_⟩
  · show (p.2.2 ++ [m.2.1]).Nodup
    rw [List.nodup_append]
    refine ⟨s.nd, by simp, fun a ha b hb e => ?_⟩
    rw [List.mem_singleton.mp hb] at e
    exact h2 (e ▸ ha)
  · rcases List.mem_append.mp (show x ∈ p.2.2 ++ [m.2.1] from hx) with h | h
    · exact s.lt x h
    · rw [List.mem_singleton.mp h]; exact hm
  · show p.2.2 ++ [m.2.1] ≠ []
    simp
/-- all that goes on from p, p itself first -/
def fromW (mv : List Mv) (p : Way) : List Way := allW mv (4 - p.2.1) p
theorem fromW_eq {mv : List Mv} {r : Nat} {p : Way} (hr : r ≤ 4) (hmv : ∀ m ∈ mv, m.2.1 < r) (s : Simple r p) : fromW mv p = p :: (extW mv p).flatMap (fromW mv) := by
  have hx : ∀ q ∈ extW mv p, q.2.1 = p.2.1 + 1 ∧ Simple r q := fun q hq => by
    obtain ⟨m, hm, rfl⟩ := List.mem_map.mp hq
    obtain ⟨h1, h2⟩ := List.mem_filter.mp hm
    exact ⟨rfl, s.ext (hmv m h1) h2⟩
  have hle := s.le
  have congr : ∀ (n : Nat) (l : List Way), (∀ q ∈ l, 4 - q.2.1 = n) → l.flatMap (fromW mv) = l.flatMap (allW mv n) := fun n l hl => by
    induction l with
    | nil => rfl
    | cons q l ih =>
      rw [List.flatMap_cons, List.flatMap_cons, ih fun y hy => hl y (List.mem_cons_of_mem _ hy)]
      unfold fromW
      rw [hl q (List.mem_cons_self ..)]
  cases e : 4 - p.2.1 with
  | zero =>
    have : extW mv p = [] := by
      cases he : extW mv p with
      | nil => rfl
      | cons q l =>
        obtain ⟨h1, h2⟩ := hx q (by rw [he]; exact List.mem_cons_self ..)
        have := h2.le
        omega
    rw [this]
    show allW mv (4 - p.2.1) p = _
    rw [e]
    rfl
  | succ n =>
    show allW mv (4 - p.2.1) p = _
    rw [e, congr n (extW mv p) fun q hq => by have := (hx q hq).1; omega]
    rfl
/-! ### the best so far -/
def Best (S : Way → Prop) (B : Nat → Option Way) : Prop := ∀ g, match B g with
  | none => ∀ p, S p → goalW p.2.2 ≠ g
  | some q => S q ∧ goalW q.2.2 = g ∧ ∀ p, S p → goalW p.2.2 = g → ltW p q = false
def putW (B : Nat → Option Way) (p : Way) : Nat → Option Way := fun g => if g = goalW p.2.2 then some p else B g
theorem Best.none_ : Best (fun _ => False) (fun _ => none) := fun g p h => h.elim
theorem Best.new {S : Way → Prop} {B : Nat → Option Way} {p : Way} (b : Best S B) (h : ∀ q, B (goalW p.2.2) = some q → ltW p q = true) : Best (fun x => S x ∨ x = p) (putW B p) := fun g => by
  have bg := b g
  unfold putW
  by_cases e : g = goalW p.2.2
  · rw [if_pos e]
    refine ⟨.inr rfl, e.symm, fun x hx hg => ?_⟩
    rcases hx with hx | rfl
    · cases hB : B g with
      | none =>
        rw [hB] at bg
        exact absurd hg (bg x hx)
      | some q =>
        rw [hB] at bg
        have hq := h q (by rw [← e]; exact hB)
        cases hl : ltW x p with
        | false => rfl
        | true =>
          have := bg.2.2 x hx hg
          rw [ltW_trans hl hq] at this
          cases this
    · exact ltW_irr x
  · rw [if_neg e]
    cases hB : B g with
    | none =>
      rw [hB] at bg
      intro x hx
      rcases hx with hx | rfl
      · exact bg x hx
      · exact fun z => e z.symm
    | some q =>
      rw [hB] at bg
      refine ⟨.inl bg.1, bg.2.1, fun x hx hg => ?_⟩
      rcases hx with hx | rfl
      · exact bg.2.2 x hx hg
      · exact absurd hg.symm e
theorem Best.old {S : Way → Prop} {B : Nat → Option Way} {p q : Way} (b : Best S B) (hB : B (goalW p.2.2) = some q) (h : ltW p q = false) : Best (fun x => S x ∨ x = p) B := fun g => by
  have bg := b g
  cases hg : B g with
  | none =>
    rw [hg] at bg
    intro x hx
    rcases hx with hx | rfl
    · exact bg x hx
    · intro e
      rw [e, hg] at hB
      cases hB
  | some y =>
    rw [hg] at bg
    refine ⟨.inl bg.1, bg.2.1, fun x hx hgx => ?_⟩
    rcases hx with hx | rfl
    · exact bg.2.2 x hx hgx
    · rw [hgx, hg] at hB
      cases hB
      exact h
theorem Best.congr {S S' : Way → Prop} {B : Nat → Option Way} (b : Best S B) (h : ∀ p, S p ↔ S' p) : Best S' B := fun g => by
  have bg := b g
  cases hg : B g with
  | none =>
    rw [hg] at bg
    exact fun p hp => bg p ((h p).mpr hp)
  | some q =>
    rw [hg] at bg
    exact ⟨(h q).mp bg.1, bg.2.1, fun p hp => bg.2.2 p ((h p).mpr hp)⟩

/-! things of two lists side by side; tuples stay -/
theorem paired_app {α β : Type} {F : α → β → Prop} : ∀ {xs xs' : List α} {ys ys' : List β}, Paired F xs ys → Paired F xs' ys' → Paired F (xs ++ xs') (ys ++ ys')
  | _, _, _, _, .nil, h => h
  | _, _, _, _, .cons h t, h' => .cons h (paired_app t h')
theorem paired_snoc {α β : Type} {F : α → β → Prop} : ∀ {ys : List β} {xs : List α} {y : β}, Paired F xs (ys ++ [y]) → ∃ xs' x, xs = xs' ++ [x] ∧ Paired F xs' ys ∧ F x y
  | [], xs, y, h => by
    cases h with
    | cons h t => cases t; exact ⟨[], _, rfl, .nil, h⟩
  | z :: ys, xs, y, h => by
    cases h with
    | cons h t =>
      obtain ⟨xs', x, rfl, h1, h2⟩ := paired_snoc t
      exact ⟨_ :: xs', x, rfl, .cons h h1, h2⟩
theorem paired_get {α β : Type} {F : α → β → Prop} : ∀ {xs : List α} {ys : List β}, Paired F xs ys → ∀ (i : Nat) (x : α), xs[i]? = some x → ∃ y, ys[i]? = some y ∧ F x y
  | _, _, .nil, i, x, h => by cases h
  | _, _, .cons h t, 0, x, e => by cases e; exact ⟨_, rfl, h⟩
  | _, _, .cons h t, i + 1, x, e => paired_get t i x (by simpa using e)
theorem paired_len {α β : Type} {F : α → β → Prop} : ∀ {xs : List α} {ys : List β}, Paired F xs ys → xs.length = ys.length
  | _, _, .nil => rfl
  | _, _, .cons _ t => by rw [List.length_cons, List.length_cons, paired_len t]
theorem paired_imp {α β : Type} {F G : α → β → Prop} (h : ∀ a b, F a b → G a b) : ∀ {xs : List α} {ys : List β}, Paired F xs ys → Paired G xs ys
  | _, _, .nil => .nil
  | _, _, .cons x t => .cons (h _ _ x) (paired_imp h t)
/-- tuples stay -/
def TK (H H' : Hp) : Prop := ∀ b xs, H b = some (.tup xs) → H' b = some (.tup xs)
theorem TK.refl (H : Hp) : TK H H := fun _ _ h => h
theorem TK.trans {H H1 H2 : Hp} (a : TK H H1) (b : TK H1 H2) : TK H H2 := fun c xs h => b c xs (a c xs h)
theorem TK.ex {H H' : Hp} (e : Ex H H') : TK H H' := fun _ _ h => e _ _ h
theorem TK.xb {H H' : Hp} {l : Addr} {ys : List V} (hl : H l = some (.lst ys)) (x : Xb l H H') : TK H H' := fun b xs h => x _ _ (fun z => by rw [z, hl] at h; cases h) h
theorem TK.dk {H : Hp} {d : Addr} {kvs kvs' : List (Key × V)} (hd : H d = some (.dK kvs)) : TK H (upd H d (.dK kvs')) := fun b xs h => by rw [upd_ne (fun z => by rw [z, hd] at h; cases h)]; exact h

/-! first_ways: what it reads and leaves -/
abbrev s_first_ways : Stmt := topS 59
abbrev N_first_ways : List Str := ["start", "moves", "best", "waiting", "price", "size", "way", "goal", "one", "other", "more"]
abbrev P_first_ways : List Str := ["start", "moves"]
theorem sc_first_ways : FnScope N_first_ways P_first_ways (defScope s_first_ways) := ⟨rfl, rfl, rfl, by decide +kernel, rfl, by decide +kernel, by decide +kernel⟩

/-- v is the tuple of p -/
def Pt (H : Hp) (v : V) (p : Way) : Prop := ∃ T W, v = .ref T ∧ H T = some (.tup [.int p.1, .int p.2.1, .ref W]) ∧ H W = some (.tup (p.2.2.map fun (n : Nat) => V.int n))
def Mt (H : Hp) (v : V) (m : Mv) : Prop := ∃ T, v = .ref T ∧ H T = some (.tup [.int m.1, .int m.2.1, .int m.2.2])
theorem Pt.tk {H H' : Hp} {v : V} {p : Way} (h : Pt H v p) (t : TK H H') : Pt H' v p := by
  obtain ⟨T, W, e, h1, h2⟩ := h
  exact ⟨T, W, e, t _ _ h1, t _ _ h2⟩
theorem Mt.tk {H H' : Hp} {v : V} {p : Mv} (h : Mt H v p) (t : TK H H') : Mt H' v p := by
  obtain ⟨T, e, h1⟩ := h
  exact ⟨T, e, t _ _ h1⟩
/-- the dict's entries are those of B -/
def DW (H : Hp) (kvs : List (Key × V)) (B : Nat → Option Way) : Prop := ∀ g : Nat, match B g with
  | none => valV kvs (.inl (g : Int)) = none
  | some p => ∃ v, valV kvs (.inl (g : Int)) = some v ∧ Pt H v p
theorem DW.tk {H H' : Hp} {kvs : List (Key × V)} {B : Nat → Option Way} (h : DW H kvs B) (t : TK H H') : DW H' kvs B := fun g => by
  have hg := h g
  cases e : B g with
  | none => rw [e] at hg; exact hg
  | some p =>
    rw [e] at hg
    obtain ⟨v, h1, h2⟩ := hg
    exact ⟨v, h1, h2.tk t⟩
theorem DW.put {H : Hp} {kvs : List (Key × V)} {B : Nat → Option Way} {p : Way} {v : V} (h : DW H kvs B) (hp : Pt H v p) : DW H (putK kvs (.inl (goalW p.2.2 : Int)) v) (putW B p) := fun g => by
  unfold putW
  by_cases e : g = goalW p.2.2
  · rw [if_pos e]
    exact ⟨v, by rw [valV_put, if_pos (by rw [e])], hp⟩
  · rw [if_neg e]
    have hne : ¬ ((.inl (g : Int) : Key) = .inl (goalW p.2.2 : Int)) := fun z => e (by
      have := Sum.inl.inj z
      omega)
    have hg := h g
    cases eB : B g with
    | none =>
      rw [eB] at hg
      show valV _ _ = none
      rw [valV_put, if_neg hne]
      exact hg
    | some q =>
      rw [eB] at hg
      obtain ⟨u, h1, h2⟩ := hg
      exact ⟨u, by rw [valV_put, if_neg hne]; exact h1, h2⟩
def dP (p : Way) : PyData := .tuple [.int p.1, .int p.2.1, .tuple ((p.2.2.map fun (n : Nat) => (n : Int)).map PyData.int)]
theorem Pt.dp {K : PySem.W.Frag} {H : Hp} {v : V} {p : Way} (h : Pt H v p) : Dp K H v (dP p) := by
  obtain ⟨T, W, rfl, h1, h2⟩ := h
  refine .tup (SqT.of h1) (.cons (.int _) (.cons (.int _) (.cons (.tup (SqT.of h2) ?_) .nil)))
  have := dp_ints (K := K) (H := H) (zs := p.2.2.map fun (n : Nat) => (n : Int))
  rw [List.map_map] at this
  exact this
theorem paired_dp {K : PySem.W.Frag} {H : Hp} : ∀ {vs : List V} {ws : List Way}, Paired (Pt H) vs ws → DpAll K H vs (ws.map dP)
  | _, _, .nil => .nil
  | _, _, .cons h t => .cons h.dp (paired_dp t)
theorem dP_lay (p : Way) : (dP p).canLay0 = true := by
  have := sh_ints (p.2.2.map fun (n : Nat) => (n : Int))
  simp [dP, PyData.canLay0, PyData.canLayAll0] at this ⊢
  exact this
theorem dP_dep (p : Way) : (dP p).depth ≤ 3 := by
  have := dep_ints (p.2.2.map fun (n : Nat) => (n : Int))
  simp [dP, PyData.depth, PyData.depthAll] at this ⊢
  omega
theorem dPs_lay : ∀ ws : List Way, PyData.canLayAll0 (ws.map dP) = true
  | [] => rfl
  | p :: ws => by
    show (PyData.canLay0 (dP p) && PyData.canLayAll0 (ws.map dP)) = true
    rw [dPs_lay ws, dP_lay]
    rfl
theorem dPs_dep : ∀ ws : List Way, PyData.depthAll (ws.map dP) ≤ 3
  | [] => by simp [PyData.depthAll]
  | p :: ws => by
    have := dPs_dep ws
    have := dP_dep p
    simp [PyData.depthAll] at *
    omega
theorem dPs_sh (ws : List Way) : SeqAt.shaped (.list (ws.map dP)) = true := by
  have h1 := dPs_lay ws
  have h2 := dPs_dep ws
  simp [SeqAt.shaped, PyData.canLay0, PyData.depth, h1]
  omega
theorem dPs_eq (ws : List Way) : PyData.eqv (.list (ws.map dP)) (.list []) = decide (ws = []) := by
  cases ws with
  | nil => rfl
  | cons p ws => rfl
theorem lex_ints : ∀ (xs ys : List Nat), HT.lexLt (xs.map fun (n : Nat) => (n : Int)) (ys.map fun (n : Nat) => (n : Int)) = lexN xs ys
  | [], [] => rfl
  | [], _ :: _ => rfl
  | _ :: _, [] => rfl
  | x :: xs, y :: ys => by
    show (if (x : Int) = y then HT.lexLt _ _ else decide ((x : Int) < y)) = if x = y then lexN xs ys else decide (x < y)
    rw [lex_ints xs ys]
    by_cases e : x = y
    · rw [if_pos (by omega), if_pos e]
    · rw [if_neg (by omega), if_neg e]
      exact dec_cg (by omega)
theorem map_cast_inj {xs ys : List Nat} : ((xs.map fun (n : Nat) => (n : Int)) = ys.map fun (n : Nat) => (n : Int)) ↔ xs = ys := by
  refine ⟨fun h => ?_, fun h => by rw [h]⟩
  induction xs generalizing ys with
  | nil => cases ys with
    | nil => rfl
    | cons _ _ => cases h
  | cons x xs ih => cases ys with
    | nil => cases h
    | cons y ys =>
      injection h with h1 h2
      have h1 : (x : Int) = y := h1
      have e : x = y := by omega
      rw [e, ih h2]
section
variable {X : Cx} {P : Program} {w : World} {K : PySem.W.Frag} {mg : Str → Option Value} {base : Heap} {N : List Str} {sc : Scope} {k : Nat} {H : Hp} {Q : VK}
/-- tuples of price, number and rooms in order -/
theorem o_ltW {a b : Addr} {p q : Way} (C : Ctx X P w K mg base N sc k) (ha : Pt H (.ref a) p) (hb : Pt H (.ref b) q) (h : Q (.bl (ltW p q)) H) : zO X (compareOp .Lt) (.ref a) (.ref b) H Q := by
  obtain ⟨T, W, e1, h1, h2⟩ := ha
  obtain ⟨T', W', e1', h1', h2'⟩ := hb
  obtain rfl : a = T := V.ref.inj e1
  obtain rfl : b = T' := V.ref.inj e1'
  have s2 : SqT X.K H W ((p.2.2.map fun (n : Nat) => (n : Int)).map V.int) := by rw [List.map_map]; exact SqT.of h2
  have s2' : SqT X.K H W' ((q.2.2.map fun (n : Nat) => (n : Int)).map V.int) := by rw [List.map_map]; exact SqT.of h2'
  refine o_ltTup (e := fun j => if j = 0 then decide ((p.1 : Int) = q.1) else if j = 1 then decide ((p.2.1 : Int) = q.2.1) else decide ((p.2.2.map fun (n : Nat) => (n : Int)) = q.2.2.map fun (n : Nat) => (n : Int)))
    (r := fun j => if j = 0 then decide ((p.1 : Int) < q.1) else if j = 1 then decide ((p.2.1 : Int) < q.2.1) else HT.lexLt (p.2.2.map fun (n : Nat) => (n : Int)) (q.2.2.map fun (n : Nat) => (n : Int))) C (SqT.of h1) (SqT.of h1') (fun j x y hx hy => ?_) ?_
  · match j, hx, hy with
    | 0, hx, hy => cases hx; cases hy; exact cmp_int
    | 1, hx, hy => cases hx; cases hy; exact cmp_int
    | 2, hx, hy => cases hx; cases hy; exact cmp_ints C s2 s2'
    | j + 3, hx, hy => cases hx
  · have e : Ob.lexAt (fun j => if j = 0 then decide ((p.1 : Int) = q.1) else if j = 1 then decide ((p.2.1 : Int) = q.2.1) else decide ((p.2.2.map fun (n : Nat) => (n : Int)) = q.2.2.map fun (n : Nat) => (n : Int)))
        (fun j => if j = 0 then decide ((p.1 : Int) < q.1) else if j = 1 then decide ((p.2.1 : Int) < q.2.1) else HT.lexLt (p.2.2.map fun (n : Nat) => (n : Int)) (q.2.2.map fun (n : Nat) => (n : Int))) (decide (3 < 3)) 0 3 = ltW p q := by
      simp only [Ob.lexAt, Nat.zero_add, if_pos rfl, Nat.reduceAdd, Nat.reduceEqDiff, if_false]
      unfold ltW
      rw [lex_ints]
      by_cases e1 : p.1 = q.1
      · by_cases e2 : p.2.1 = q.2.1
        · by_cases e3 : p.2.2 = q.2.2
          · simp [e1, e2, e3, lexN_irr]
          · simp [e1, e2]
            exact fun _ z => e3 (map_cast_inj.mp z)
        · have h3 : ¬ ((p.2.1 : Int) = q.2.1) := by omega
          simp [e1, e2, h3]
      · have h3 : ¬ ((p.1 : Int) = q.1) := by omega
        simp [e1, h3]
    show Q (.bl (Ob.lexAt _ _ (decide (3 < 3)) 0 3)) H
    rw [e]
    exact h
end
def startW (s : Nat) : Way := (0, 1, [s])
def spWays (K : PySem.W.Frag) : Sp := fun vs H Q _ => ∃ (s r : Nat) (ml : Addr) (xs : List V) (mv : List Mv), vs = [.int s, .ref ml] ∧ (SqL K H ml xs ∨ SqT K H ml xs) ∧ Paired (Mt H) xs mv ∧ s < r ∧ r ≤ 4 ∧ mv.length ≤ 12 ∧ (∀ m ∈ mv, m.2.1 < r) ∧
  ∀ d H' kvs B, H d = none → Ex H H' → H' d = some (.dK kvs) → DW H' kvs B → Best (fun p => p ∈ fromW mv (startW s)) B → Q (.ref d) H'
/-- between the turns of the while -/
structure WInv (K : PySem.W.Frag) (H H' : Hp) (mv : List Mv) (r s : Nat) (wl d : Addr) (ws : List Way) (m : Nat) : Prop where
  ex : Ex H H'
  nw : H wl = none
  nd : H d = none
  vs : ∃ vs, H' wl = some (.lst vs) ∧ Paired (Pt H') vs ws
  dk : ∃ kvs B S, H' d = some (.dK kvs) ∧ DW H' kvs B ∧ Best S B ∧ (∀ x, x ∈ fromW mv (startW s) ↔ S x ∨ ∃ y ∈ ws, x ∈ fromW mv y) ∧ kvs.length + m ≤ cntW 4
  si : ∀ y ∈ ws, Simple r y
  ms : m = ((ws.map (fromW mv)).map List.length).sum
section
variable {P : Program} {w : World} {K : PySem.W.Frag} {mg : Str → Option Value} {base : Heap}
theorem goal_at {p : Way} {r : Nat} (s : Simple r p) : atI (p.2.2.map fun (n : Nat) => V.int n) (-1) = some (.int (goalW p.2.2)) := by
  have hl := List.length_pos_iff.mpr s.ne
  have h : p.2.2.getLast? = some (p.2.2.getLast s.ne) := List.getLast?_eq_some_getLast s.ne
  unfold goalW
  rw [h]
  unfold atI ixN
  rw [if_neg (by omega), if_pos (by rw [List.length_map]; omega), List.length_map]
  show ((p.2.2.map fun (n : Nat) => V.int n)[((-1 : Int) + (p.2.2.length : Nat)).toNat]?) = _
  have e : ((-1 : Int) + (p.2.2.length : Nat)).toNat = p.2.2.length - 1 := by omega
  rw [e, List.getElem?_map, ← List.getLast?_eq_getElem?, h]
  rfl
abbrev wB : List Stmt := whileBody (stAt (defBody s_first_ways) 2)
theorem xb_trans {l : Addr} {H H1 H2 : Hp} (a : Xb l H H1) (b : Xb l H1 H2) : Xb l H H2 := fun c o hc h => b c o hc (a c o hc h)
theorem take_snoc {α : Type} {l : List α} {i : Nat} {x : α} (h : l[i]? = some x) : l.take (i + 1) = l.take i ++ [x] := by
  rw [List.take_succ, h]
  rfl
theorem ways_for {X : Cx} {H H8 : Hp} {nx bk ct : St → Hp → Prop} {rt : VK} {s : Nat} {ml d wl W : Addr} {p : Way} {xs vs0 : List V} {mv : List Mv} {o8 o9 o10 : Option V} (C : Ctx X P w K mg base N_first_ways (defScope s_first_ways) 0) (hfn : ∀ y, X.fn y = true)
    (hml : SqL X.K H ml xs ∨ SqT X.K H ml xs) (hmt : Paired (Mt H) xs mv) (hm : mv.length ≤ 12) (e : Ex H H8) (nwl : H wl = none) (hW : H8 W = some (.tup (p.2.2.map fun (n : Nat) => V.int n))) (hpl : p.2.2.length ≤ 4) (hpn : p.2.2 ≠ []) (hw : H8 wl = some (.lst vs0)) (hl : vs0.length ≤ 50000)
    (hn : ∀ o8 o9 o10 H9 es, Ex H H9 → Xb wl H8 H9 → H9 wl = some (.lst (vs0 ++ es)) → Paired (Pt H9) es (extW mv p) → nx [some (.int s), some (.ref ml), some (.ref d), some (.ref wl), some (.int p.1), some (.int p.2.1), some (.ref W), some (.int (goalW p.2.2)), o8, o9, o10] H9) :
    zB X (wB.drop 3) nx rt bk ct [some (.int s), some (.ref ml), some (.ref d), some (.ref wl), some (.int p.1), some (.int p.2.1), some (.ref W), some (.int (goalW p.2.2)), o8, o9, o10] H8 := by
  have n_start : Nm X "start" 0 := C.nm rfl (by decide +kernel)
  have n_moves : Nm X "moves" 1 := C.nm rfl (by decide +kernel)
  have n_best : Nm X "best" 2 := C.nm rfl (by decide +kernel)
  have n_waiting : Nm X "waiting" 3 := C.nm rfl (by decide +kernel)
  have n_price : Nm X "price" 4 := C.nm rfl (by decide +kernel)
  have n_size : Nm X "size" 5 := C.nm rfl (by decide +kernel)
  have n_way : Nm X "way" 6 := C.nm rfl (by decide +kernel)
  have n_goal : Nm X "goal" 7 := C.nm rfl (by decide +kernel)
  have n_one : Nm X "one" 8 := C.nm rfl (by decide +kernel)
  have n_other : Nm X "other" 9 := C.nm rfl (by decide +kernel)
  have n_more : Nm X "more" 10 := C.nm rfl (by decide +kernel)
  have w_best : Ns X "best" 2 := C.ns rfl (by decide +kernel) (.inl (hfn _))
  have w_waiting : Ns X "waiting" 3 := C.ns rfl (by decide +kernel) (.inl (hfn _))
  have w_price : Ns X "price" 4 := C.ns rfl (by decide +kernel) (.inl (hfn _))
  have w_size : Ns X "size" 5 := C.ns rfl (by decide +kernel) (.inl (hfn _))
  have w_way : Ns X "way" 6 := C.ns rfl (by decide +kernel) (.inl (hfn _))
  have w_goal : Ns X "goal" 7 := C.ns rfl (by decide +kernel) (.inl (hfn _))
  have w_one : Ns X "one" 8 := C.ns rfl (by decide +kernel) (.inl (hfn _))
  have w_other : Ns X "other" 9 := C.ns rfl (by decide +kernel) (.inl (hfn _))
  have w_more : Ns X "more" 10 := C.ns rfl (by decide +kernel) (.inl (hfn _))
  refine b_cons ?_
  refine s_for C (i_seq hml e (e_name n_moves rfl ⟨rfl, Evl.Ex.refl _, fun J S hJ hS => ⟨_, S, _, fun i σ H' => ∃ o8 o9 o10 es, σ = [some (.int s), some (.ref ml), some (.ref d), some (.ref wl), some (.int p.1), some (.int p.2.1), some (.ref W), some (.int (goalW p.2.2)), o8, o9, o10] ∧ Ex H H' ∧ Xb wl H8 H' ∧ H' wl = some (.lst (vs0 ++ es)) ∧ Paired (Pt H') es (((mv.take i).filter (goP p)).map (onW p)), hJ,
      ⟨_, _, _, [], rfl, e, fun _ _ _ h => h, by rw [List.append_nil]; exact hw, .nil⟩, fun i σ H' _ ⟨_, _, _, _, _, h, _⟩ => hS H' h, ?_, ?_⟩⟩))
  · rintro i x σ H1 H2 hi ⟨o8, o9, o10, es, rfl, e1, x1, w1, p1⟩ e2 hx
    obtain ⟨m, hmi, hmx⟩ := paired_get hmt i x hx
    obtain ⟨T, rfl, hT⟩ := hmx.tk (TK.ex (e1.trans e2))
    have hes : es.length ≤ 12 := by
      rw [paired_len p1, List.length_map]
      refine Nat.le_trans (List.length_filter_le _ _) ?_
      rw [List.length_take]
      omega
    have p2 : Paired (Pt H2) es (((mv.take i).filter (goP p)).map (onW p)) := paired_imp (fun _ _ h => h.tk (TK.ex e2)) p1
    have hW2 : H2 W = some (.tup (p.2.2.map fun (n : Nat) => V.int n)) := e2 _ _ (TK.xb hw x1 _ _ hW)
    have sW : SqT X.K H2 W ((p.2.2.map fun (n : Nat) => (n : Int)).map V.int) := by rw [List.map_map]; exact SqT.of hW2
    have x2 : Xb wl H8 H2 := xb_trans x1 (Xb.of e2)
    have w2 := e2 _ _ w1
    refine g_tup C (SqT.of hT) ?_
    kpc_turns
    have no : goP p m = false → (((mv.take (i + 1)).filter (goP p)).map (onW p)) = ((mv.take i).filter (goP p)).map (onW p) := fun h => by
      rw [take_snoc hmi, List.filter_append, List.filter_cons_of_neg (by rw [h]; decide), List.filter_nil, List.append_nil]
    have yes : goP p m = true → (((mv.take (i + 1)).filter (goP p)).map (onW p)) = ((mv.take i).filter (goP p)).map (onW p) ++ [onW p m] := fun h => by
      rw [take_snoc hmi, List.filter_append, List.filter_cons_of_pos h, List.filter_nil, List.map_append]
      rfl
    refine if_d (fun h1 => ?_) fun h1 => ?_
    · kpc_turns
      refine o_ninTI sW ?_
      have hdm : decide ((m.2.1 : Int) ∈ p.2.2.map fun (n : Nat) => (n : Int)) = decide (m.2.1 ∈ p.2.2) := dec_cg ⟨fun h => by
        obtain ⟨n, h1, h2⟩ := List.mem_map.mp h
        have : n = m.2.1 := by omega
        rw [← this]; exact h1, fun h => List.mem_map.mpr ⟨_, h, rfl⟩⟩
      rw [hdm]
      kpc_turns
      refine if_nd (fun h2 => ?_) fun h2 => ?_
      · have hgo : goP p m = true := by
          unfold goP
          rw [decide_eq_true (by omega), decide_eq_false h2]
          rfl
        kpc_turns
        refine ⟨wl, _, rfl, w2, ?_⟩
        refine n_tup ?_
        kpc_turns
        refine n_tup ?_
        kpc_turns
        refine ⟨by show 1 ≤ sizeLine; decide, fun U H3 nU e3 hU => ?_⟩
        refine o_catT (SqT.of (e3 _ _ hW2)) (SqT.of hU) (by intro z; exact hpn (List.map_eq_nil_iff.mp z)) (by simp) (sz_le (by rw [List.length_map]; show _ + 1 ≤ _; omega)) fun W2 H4 nW4 e4 hW4 => ?_
        kpc_turns
        refine ⟨by show 3 ≤ sizeLine; decide, fun T3 H5 nT5 e5 hT5 => ?_⟩
        have e25 : Ex H2 H5 := (e3.trans e4).trans e5
        refine ⟨_, e25 _ _ w2, small_lt (by rw [List.length_append]; omega), fun H6 x6 w6 => ?_⟩
        kpc_turns
        have tk : TK H2 H6 := (TK.ex e25).trans (TK.xb (e25 _ _ w2) x6)
        have t56 : TK H5 H6 := TK.xb (e25 _ _ w2) x6
        refine ⟨_, _, _, es ++ [.ref T3], rfl, Xb.ex ((e1.trans e2).trans e25) nwl x6, xb_trans (xb_trans x2 (Xb.of e25)) x6, by rw [← List.append_assoc]; exact w6, ?_⟩
        rw [yes hgo]
        refine paired_app (paired_imp (fun _ _ h => h.tk tk) p2) (.cons ⟨T3, W2, rfl, t56 _ _ ?_, t56 _ _ (e5 _ _ ?_)⟩ .nil)
        · rw [hT5]
          rfl
        · rw [hW4]
          show _ = some (HO.tup ((p.2.2 ++ [m.2.1]).map fun (n : Nat) => V.int n))
          rw [List.map_append]
          rfl
      · have hgo : goP p m = false := by
          unfold goP
          rw [decide_eq_true h2]
          simp
        kpc_turns
        exact ⟨_, _, _, es, rfl, e1.trans e2, x2, w2, by rw [no hgo]; exact p2⟩
    · have hgo : goP p m = false := by
        unfold goP
        rw [decide_eq_false (by omega)]
        rfl
      kpc_turns
      exact ⟨_, _, _, es, rfl, e1.trans e2, x2, w2, by rw [no hgo]; exact p2⟩
  · rintro σ H1 ⟨o8, o9, o10, es, rfl, e1, x1, w1, p1⟩
    refine b_nil (hn _ _ _ H1 es e1 x1 w1 ?_)
    rw [List.take_of_length_le (by rw [paired_len hmt]; exact Nat.le_refl _)] at p1
    exact p1
theorem fromW_pos (mv : List Mv) (p : Way) : 1 ≤ (fromW mv p).length := by
  unfold fromW
  cases 4 - p.2.1 with
  | zero => exact Nat.le_refl 1
  | succ n => show 1 ≤ (_ :: _ : List Way).length; rw [List.length_cons]; omega
theorem sum_ge (mv : List Mv) : ∀ ws : List Way, ws.length ≤ ((ws.map (fromW mv)).map List.length).sum
  | [] => Nat.le_refl 0
  | w :: ws => by
    have := sum_ge mv ws
    have := fromW_pos mv w
    simp only [List.map_cons, List.sum_cons, List.length_cons]
    omega
theorem WInv.step {H H5 H9 : Hp} {mv : List Mv} {r s : Nat} {wl d : Addr} {ws0 : List Way} {p : Way} {m : Nat} (I : WInv K H H5 mv r s wl d (ws0 ++ [p]) m) (hr : r ≤ 4) (hmr : ∀ q ∈ mv, q.2.1 < r) {kvs kvs1 : List (Key × V)} {B1 : Nat → Option Way} {S : Way → Prop} {vs : List V} (e9 : Ex H H9)
    (w9 : H9 wl = some (.lst vs)) (p9 : Paired (Pt H9) vs (ws0 ++ extW mv p)) (d9 : H9 d = some (.dK kvs1)) (D9 : DW H9 kvs1 B1) (b9 : Best (fun x => S x ∨ x = p) B1) (hS : ∀ x, x ∈ fromW mv (startW s) ↔ S x ∨ ∃ y ∈ ws0 ++ [p], x ∈ fromW mv y) (hk : kvs.length + m ≤ cntW 4) (hk1 : kvs1.length ≤ kvs.length + 1) :
    ∃ m', m' < m ∧ WInv K H H9 mv r s wl d (ws0 ++ extW mv p) m' := by
  have sp := I.si p (by simp)
  have hp := fromW_eq hr hmr sp
  have hms := I.ms
  have hsum : (((ws0 ++ extW mv p).map (fromW mv)).map List.length).sum + 1 = m := by
    rw [hms, List.map_append, List.map_append, List.sum_append, List.map_append, List.map_append, List.sum_append]
    simp only [List.map_cons, List.map_nil, List.sum_cons, List.sum_nil]
    have h1 : ((extW mv p).map (fromW mv)).map List.length = (extW mv p).map fun a => (fromW mv a).length := by rw [List.map_map]; rfl
    rw [h1, hp, List.length_cons, List.length_flatMap]
    omega
  refine ⟨_, by omega, e9, I.nw, I.nd, ⟨vs, w9, p9⟩, ⟨kvs1, B1, _, d9, D9, b9, fun x => ?_, by omega⟩, fun y hy => ?_, rfl⟩
  · rw [hS x]
    constructor
    · rintro (h | ⟨y, hy, hx⟩)
      · exact .inl (.inl h)
      · rcases List.mem_append.mp hy with hy | hy
        · exact .inr ⟨y, List.mem_append_left _ hy, hx⟩
        · rw [List.mem_singleton.mp hy, hp] at hx
          rcases List.mem_cons.mp hx with e | hx
          · exact .inl (.inr e)
          · obtain ⟨z, hz, hx⟩ := List.mem_flatMap.mp hx
            exact .inr ⟨z, List.mem_append_right _ hz, hx⟩
    · rintro ((h | h) | ⟨y, hy, hx⟩)
      · exact .inl h
      · exact .inr ⟨p, by simp, by rw [hp, h]; exact List.mem_cons_self ..⟩
      · rcases List.mem_append.mp hy with hy | hy
        · exact .inr ⟨y, List.mem_append_left _ hy, hx⟩
        · exact .inr ⟨p, by simp, by rw [hp]; exact List.mem_cons_of_mem _ (List.mem_flatMap.mpr ⟨y, hy, hx⟩)⟩
  · rcases List.mem_append.mp hy with hy | hy
    · exact I.si y (List.mem_append_left _ hy)
    · obtain ⟨q, hq, rfl⟩ := List.mem_map.mp hy
      obtain ⟨h1, h2⟩ := List.mem_filter.mp hq
      exact sp.ext (hmr q h1) h2
theorem ok_first_ways {f : Addr} {fd : FuncData} (F : FnP K "first_ways" s_first_ways f fd) : FnOk P w K mg base CX0 1 f fd P_first_ways (spWays K) := by
  refine fn_ok F sc_first_ways (fun vs H Q E ⟨s, r, c, xs, mv, h, _⟩ => by rw [h]; rfl) fun X vs H Q E C hfn ⟨s, r, ml, xs, mv, hv, hml, hmt, hs, hr, hm, hmr, hq⟩ => ?_
  subst hv
  have n_start : Nm X "start" 0 := C.nm rfl (by decide +kernel)
  have n_moves : Nm X "moves" 1 := C.nm rfl (by decide +kernel)
  have n_best : Nm X "best" 2 := C.nm rfl (by decide +kernel)
  have n_waiting : Nm X "waiting" 3 := C.nm rfl (by decide +kernel)
  have n_price : Nm X "price" 4 := C.nm rfl (by decide +kernel)
  have n_size : Nm X "size" 5 := C.nm rfl (by decide +kernel)
  have n_way : Nm X "way" 6 := C.nm rfl (by decide +kernel)
  have n_goal : Nm X "goal" 7 := C.nm rfl (by decide +kernel)
  have n_one : Nm X "one" 8 := C.nm rfl (by decide +kernel)
  have n_other : Nm X "other" 9 := C.nm rfl (by decide +kernel)
  have n_more : Nm X "more" 10 := C.nm rfl (by decide +kernel)
  have w_best : Ns X "best" 2 := C.ns rfl (by decide +kernel) (.inl (hfn _))
  have w_waiting : Ns X "waiting" 3 := C.ns rfl (by decide +kernel) (.inl (hfn _))
  have w_price : Ns X "price" 4 := C.ns rfl (by decide +kernel) (.inl (hfn _))
  have w_size : Ns X "size" 5 := C.ns rfl (by decide +kernel) (.inl (hfn _))
  have w_way : Ns X "way" 6 := C.ns rfl (by decide +kernel) (.inl (hfn _))
  have w_goal : Ns X "goal" 7 := C.ns rfl (by decide +kernel) (.inl (hfn _))
  have w_one : Ns X "one" 8 := C.ns rfl (by decide +kernel) (.inl (hfn _))
  have w_other : Ns X "other" 9 := C.ns rfl (by decide +kernel) (.inl (hfn _))
  have w_more : Ns X "more" 10 := C.ns rfl (by decide +kernel) (.inl (hfn _))
  refine b_cons ?_
  kpc_turns
  refine e_dict0 fun d H1 nd e1 hd => ?_
  kpc_turns
  refine n_lst ?_
  kpc_turns
  refine n_tup ?_
  kpc_turns
  refine n_tup ?_
  kpc_turns
  refine ⟨by show 1 ≤ sizeLine; decide, fun W0 H2 nW0 e2 hW0 => ?_⟩
  kpc_turns
  refine ⟨by show 3 ≤ sizeLine; decide, fun T0 H3 nT0 e3 hT0 => ?_⟩
  kpc_turns
  refine ⟨by show 1 ≤ sizeLine; decide, fun wl H4 nwl e4 hwl => ?_⟩
  kpc_turns
  have e34 := e3.trans e4
  have e14 := e2.trans e34
  have nwl1 : H1 wl = none := ex_n (e2.trans e3) nwl
  have I0 : WInv K H H4 mv r s wl d [startW s] ((fromW mv (startW s)).length) := by
    refine ⟨e1.trans e14, ex_n e1 nwl1, nd, ⟨_, hwl, .cons ⟨T0, W0, rfl, e4 _ _ hT0, e34 _ _ hW0⟩ .nil⟩, ⟨[], fun _ => none, fun _ => False, e14 _ _ hd, fun _ => rfl, Best.none_, fun x => ⟨fun h => .inr ⟨_, List.mem_singleton.mpr rfl, h⟩, fun h => ?_⟩, ?_⟩, fun y hy => ?_, by simp⟩
    · rcases h with h | ⟨y, hy, h⟩
      · exact h.elim
      · rw [List.mem_singleton.mp hy] at h; exact h
    · have := allW_len hm 3 (startW s)
      have h2 : cntW 3 ≤ cntW 4 := by decide
      show 0 + (allW mv 3 (startW s)).length ≤ cntW 4
      omega
    · rw [List.mem_singleton.mp hy]
      exact ⟨rfl, by simp [startW], fun x hx => by rw [List.mem_singleton.mp hx]; exact hs, by simp [startW]⟩
  refine s_while C (fun m σ H' => ∃ o4 o5 o6 o7 o8 o9 o10 ws, σ = [some (.int s), some (.ref ml), some (.ref d), some (.ref wl), o4, o5, o6, o7, o8, o9, o10] ∧ WInv K H H' mv r s wl d ws m) ((fromW mv (startW s)).length) ⟨_, _, _, _, _, _, _, _, rfl, I0⟩ ?_
  clear I0 e34 e14 nwl1 hT0 hW0 nW0 nT0 hwl nwl hd e4 e3 e2 e1
  rintro m σ H5 ⟨o4, o5, o6, o7, o8, o9, o10, ws, rfl, I5⟩
  obtain ⟨vs, hvs, hp⟩ := I5.vs
  obtain ⟨kvs, B, S, hd5, hD, hB, hS, hk⟩ := I5.dk
  kpc_turns
  refine n_lst (a_nil ⟨by show 0 ≤ sizeLine; decide, fun EL H6 nE eE hE => ?_⟩)
  refine o_neD C (.lst (SqL.of (eE _ _ hvs)) (paired_dp (paired_imp (fun _ _ h => h.tk (TK.ex eE)) hp))) (.lst (SqL.of hE) .nil) (dPs_sh ws) (dPs_sh []) ?_
  show _
  rw [show PyData.eqv (.list (ws.map dP)) (.list []) = decide (ws = []) from dPs_eq ws]
  kpc_turns
  refine if_nd (fun hne => ?_) fun hem => ?_
  · obtain ⟨ws0, p, rfl⟩ : ∃ ws0 p, ws = ws0 ++ [p] := ⟨ws.dropLast, ws.getLast hne, (List.dropLast_concat_getLast hne).symm⟩
    obtain ⟨vs0, v, rfl, hp0, hpp⟩ := paired_snoc hp
    have sp := I5.si p (by simp)
    kpc_turns
    refine ⟨wl, vs0, v, rfl, eE _ _ hvs, fun H7 x7 hw7 => ?_⟩
    have t57 : TK H5 H7 := (TK.ex eE).trans (TK.xb (eE _ _ hvs) x7)
    obtain ⟨T, W, rfl, hT, hW⟩ := hpp.tk t57
    have hdl : d ≠ wl := fun z => by rw [z, hvs] at hd5; cases hd5
    have hd7 := x7 _ _ hdl (eE _ _ hd5)
    have hD7 := hD.tk t57
    have e7 : Ex H H7 := Xb.ex (I5.ex.trans eE) I5.nw x7
    have hle := sp.le
    have hlen : vs0.length ≤ 50000 := by
      have h1 := sum_ge mv (ws0 ++ [p])
      rw [← I5.ms, List.length_append] at h1
      have h2 := paired_len hp0
      have h3 : cntW 4 ≤ 50000 := by decide
      omega
    have hkl : kvs.length ≤ 50000 := by
      have h3 : cntW 4 ≤ 50000 := by decide
      omega
    have fin : ∀ (H8 : Hp) (kvs1 : List (Key × V)) (B1 : Nat → Option Way), Ex H H8 → TK H7 H8 → H8 wl = some (.lst vs0) → H8 d = some (.dK kvs1) → DW H8 kvs1 B1 → Best (fun x => S x ∨ x = p) B1 → kvs1.length ≤ kvs.length + 1 →
        zB X (wB.drop 3) (fun σ' H' => ∃ m', m' < m ∧ ∃ o4 o5 o6 o7 o8 o9 o10 ws, σ' = [some (.int s), some (.ref ml), some (.ref d), some (.ref wl), o4, o5, o6, o7, o8, o9, o10] ∧ WInv K H H' mv r s wl d ws m') Q (fun _ _ => False)
          (fun σ' H' => ∃ m', m' < m ∧ ∃ o4 o5 o6 o7 o8 o9 o10 ws, σ' = [some (.int s), some (.ref ml), some (.ref d), some (.ref wl), o4, o5, o6, o7, o8, o9, o10] ∧ WInv K H H' mv r s wl d ws m')
          [some (.int s), some (.ref ml), some (.ref d), some (.ref wl), some (.int p.1), some (.int p.2.1), some (.ref W), some (.int (goalW p.2.2)), o8, o9, o10] H8 := fun H8 kvs1 B1 e8 t8 w8 d8 D8 b8 k8 => by
      refine ways_for C hfn (by rw [C.frg]; exact hml) hmt hm e8 I5.nw (t8 _ _ hW) (by rw [← sp.size]; omega) sp.ne w8 hlen fun o8 o9 o10 H9 es e9 x9 w9 p9 => ?_
      have t9 : TK H8 H9 := TK.xb w8 x9
      obtain ⟨m', hm', I9⟩ := I5.step hr hmr (kvs := kvs) (kvs1 := kvs1) (B1 := B1) (S := S) e9 w9 (paired_app (paired_imp (fun _ _ h => h.tk (t57.trans (t8.trans t9))) hp0) p9) (x9 _ _ hdl d8) (D8.tk t9) b8 hS hk k8
      exact ⟨m', hm', _, _, _, _, _, _, _, _, rfl, I9⟩
    refine g_tup C (SqT.of hT) ?_
    kpc_turns
    refine x_t (SqT.of hW) (goal_at sp) ?_
    kpc_turns
    have hg := hD7 (goalW p.2.2)
    have hgk : DGet H7 d (.int (goalW p.2.2)) (valV kvs (.inl (goalW p.2.2 : Int))) := DGet.k (k := .inl (goalW p.2.2 : Int)) hd7
    refine o_ninDk C hgk ?_
    cases hBg : B (goalW p.2.2) with
    | none =>
      rw [hBg] at hg
      have hg : valV kvs (.inl (goalW p.2.2 : Int)) = none := hg
      rw [hg]
      kpc_turns
      refine n_tup ?_
      kpc_turns
      refine ⟨by show 3 ≤ sizeLine; decide, fun T3 H8 nT3 e8 hT3 => ?_⟩
      kpc_turns
      refine st_d C (DPut.k (k := .inl (goalW p.2.2 : Int)) (e8 _ _ hd7) (small_lt (by omega))) ?_
      have tk := TK.dk (kvs' := putK kvs (.inl (goalW p.2.2 : Int)) (.ref T3)) (e8 _ _ hd7)
      have hP8 : Pt H8 (.ref T3) p := ⟨T3, W, rfl, hT3, e8 _ _ hW⟩
      refine b_nil (fin _ _ (putW B p) ?_ ((TK.ex (e8)).trans tk) ?_ upd_same ?_ (hB.new ?_) (length_putK _ _ _))
      · exact Xb.ex (e7.trans (e8)) I5.nd Xb.upd
      · rw [upd_ne (Ne.symm hdl)]; exact e8 _ _ hw7
      · exact ((hD7.tk (TK.ex (e8))).put hP8).tk tk
      · rw [hBg]
        intro q z
        cases z
    | some q =>
      rw [hBg] at hg
      obtain ⟨u, hu, T1, W1, rfl, hT1, hW1⟩ := hg
      rw [hu] at hgk ⊢
      kpc_turns
      refine n_tup ?_
      kpc_turns
      refine ⟨by show 3 ≤ sizeLine; decide, fun T2 H8' nT2 e8' hT2 => ?_⟩
      kpc_turns
      refine x_d C (v := .ref T1) (by rw [← hu]; exact DGet.k (k := .inl (goalW p.2.2 : Int)) (e8' _ _ hd7)) ?_
      refine o_ltW (p := p) (q := q) C ⟨T2, W, rfl, hT2, e8' _ _ hW⟩ ⟨T1, W1, rfl, e8' _ _ hT1, e8' _ _ hW1⟩ ?_
      cases hlt : ltW p q with
      | false =>
        refine ⟨false, rfl, if_cf rfl (b_nil ?_)⟩
        exact (fin _ kvs B (e7.trans e8') (TK.ex e8') (e8' _ _ hw7) (e8' _ _ hd7) (hD7.tk (TK.ex e8')) (hB.old hBg hlt) (by omega))
      | true =>
      kpc_turns
      refine n_tup ?_
      kpc_turns
      refine ⟨by show 3 ≤ sizeLine; decide, fun T3 H8 nT3 e8 hT3 => ?_⟩
      kpc_turns
      refine st_d C (DPut.k (k := .inl (goalW p.2.2 : Int)) (e8 _ _ (e8' _ _ hd7)) (small_lt (by omega))) ?_
      have tk := TK.dk (kvs' := putK kvs (.inl (goalW p.2.2 : Int)) (.ref T3)) (e8 _ _ (e8' _ _ hd7))
      have hP8 : Pt H8 (.ref T3) p := ⟨T3, W, rfl, hT3, e8 _ _ (e8' _ _ hW)⟩
      refine b_nil (fin _ _ (putW B p) ?_ ((TK.ex ((e8'.trans e8))).trans tk) ?_ upd_same ?_ (hB.new ?_) (length_putK _ _ _))
      · exact Xb.ex (e7.trans ((e8'.trans e8))) I5.nd Xb.upd
      · rw [upd_ne (Ne.symm hdl)]; exact (e8'.trans e8) _ _ hw7
      · exact ((hD7.tk (TK.ex ((e8'.trans e8)))).put hP8).tk tk
      · rw [hBg]
        intro q' z
        cases z
        exact hlt
  · subst hem
    kpc_turns
    exact hq d H6 kvs B I5.nd (I5.ex.trans eE) (eE _ _ hd5) (hD.tk (TK.ex eE)) (hB.congr fun x => ⟨fun h => (hS x).mpr (.inl h), fun h => ((hS x).mp h).elim id fun ⟨y, hy, _⟩ => by cases hy⟩)
end

/-! the errors' classes, made -/
/-- fields of an error with one value -/
def fs1 (tag fld : Str) (y : V) : List (Str × V) := [("tag", .str tag), (fld, y)]
/-- how an error with one value leaves -/
def Out (E : XK) (H : Hp) (CA : Addr) (tag fld : Str) (v : V) : Prop := ∀ d H', Ex H H' → H' d = some (.xd (fs1 tag fld v)) → E (.ref CA) (some d) H'
def spExc (CA : Addr) (tag fld : Str) : Sp := fun vs H Q _ => ∃ a y, vs = [.ref a, y] ∧ H a = some (exo a CA none) ∧ ∀ dx, H dx = none → dx ≠ a → Q .non (upd (upd H dx (exd dx (fs1 tag fld y))) a (exo a CA (some dx)))
theorem exc_body {X : Cx} {σ : St} {H : Hp} {Q : VK} {CA a : Addr} {y : V} {fld tag : Str} {p1 p2 p3 p4 p5 p6 p7 p8 : Pos} {j : Nat} (T : OexC X.K CA) (m1 : Nm X "self" 0) (m2 : Nm X fld 1) (n1 : PySem.W.findIn X.K (.ref CA) fld = some none) (n2 : PySem.W.findIn X.K (.ref CA) "tag" = some none)
    (ha : H a = some (exo a CA none)) (h0 : σ[0]? = some (some (.ref a))) (h1 : σ[1]? = some (some y)) (hq : ∀ dx, H dx = none → dx ≠ a → Q .non (upd (upd H dx (exd dx (fs1 tag fld y))) a (exo a CA (some dx))))
    (d1 : (fld == ("__debug__" : Str)) = false := by decide) (d2 : (fld == ("__classdict__" : Str)) = false := by decide) :
    zB X [.Assign [.Attribute (.Name "self" p1) fld p2] (.Name fld p3) p4, .Assign [.Attribute (.Name "self" p5) "tag" p6] (.Constant (.str tag) j p7) p8] (fun _ H' => Q .non H') Q (fun _ _ => False) (fun _ _ => False) σ H := by
  refine b_cons (s_ost (e_name m2 h1 (e_name m1 h0 ⟨a, CA, rfl, T, n1, .inl ⟨ha, fun dx hd hda => ?_⟩⟩) d1 d2))
  refine b_cons (s_ost (e_str (e_name m1 h0 ⟨a, CA, rfl, T, n2, .inr ⟨dx, [(fld, y)], upd_same, by rw [upd_ne hda, upd_same], by show 1 ≤ 900; decide, ?_⟩⟩)))
  refine b_nil ?_
  have e1 : upd (upd (upd H dx (exd dx [(fld, y)])) a (exo a CA (some dx))) dx (exd dx [("tag", .str tag), (fld, y)]) = upd (upd H dx (exd dx (fs1 tag fld y))) a (exo a CA (some dx)) := by
    funext b
    by_cases hb : b = dx
    · subst hb; rw [upd_same, upd_ne hda, upd_same]; rfl
    · rw [upd_ne hb]
      by_cases hba : b = a
      · subst hba; rw [upd_same, upd_same]
      · rw [upd_ne hba, upd_ne hba, upd_ne hb, upd_ne hb]
  rw [e1]
  exact hq dx hd hda
abbrev e_InvalidTree : Stmt := inClass (topS 4) 0
theorem ok_InvalidTree {P : Program} {w : World} {K : PySem.W.Frag} {mg : Str → Option Value} {base : Heap} {CA f cc cda : Addr} {fd : FuncData} (T : ExI P K CA f cc cda "__init__" "InvalidTree.__init__" (defArgs e_InvalidTree) (defBody e_InvalidTree) (defScope e_InvalidTree) fd) (mS : mg "super" = none)
    (n1 : PySem.W.findIn K (.ref CA) "index" = some none) (n2 : PySem.W.findIn K (.ref CA) "tag" = some none) : FnOk P w K mg base CX0 1 f fd ["self", "index"] (spExc CA "InvalidTree" "index") := by
  refine init_ok (N := ["self", "index", "__class__"]) (k := 0) (txt := "a string is not a tree") T (NdefX.nscope_by (by decide +kernel)) mS (by rfl) (fun _ => rfl) (by decide +kernel) (by rfl) (by rfl) (fun vs H Q E ⟨a, y, h, _⟩ => by rw [h]; rfl) (fun vs H Q E ⟨a, y, h, ha, _⟩ => ⟨a, [y], h, ha⟩) ?_
  rintro X vs H Q E C ⟨a, y, rfl, ha, hq⟩
  have m1 : Nm X "self" 0 := C.nm rfl (by decide +kernel)
  have m2 : Nm X "index" 1 := C.nm rfl (by decide +kernel)
  exact exc_body (by rw [C.frg]; exact T.ox) m1 m2 (by rw [C.frg]; exact n1) (by rw [C.frg]; exact n2) ha rfl rfl hq


/-! the checks of rules and moves -/
abbrev s_check_rules : Stmt := topS 60
abbrev N_check_rules : List Str := ["rooms", "rules", "index", "rule"]
abbrev P_check_rules : List Str := ["rooms", "rules"]
theorem sc_check_rules : FnScope N_check_rules P_check_rules (defScope s_check_rules) := ⟨rfl, rfl, rfl, by decide +kernel, rfl, by decide +kernel, by decide +kernel⟩
abbrev s_check_moves : Stmt := topS 61
abbrev N_check_moves : List Str := ["rooms", "moves", "seen", "index", "move"]
abbrev P_check_moves : List Str := ["rooms", "moves"]
theorem sc_check_moves : FnScope N_check_moves P_check_moves (defScope s_check_moves) := ⟨rfl, rfl, rfl, by decide +kernel, rfl, by decide +kernel, by decide +kernel⟩
abbrev s_check_joined : Stmt := topS 62
abbrev N_check_joined : List Str := ["rooms", "ways", "room", "other"]
abbrev P_check_joined : List Str := ["rooms", "ways"]
theorem sc_check_joined : FnScope N_check_joined P_check_joined (defScope s_check_joined) := ⟨rfl, rfl, rfl, by decide +kernel, rfl, by decide +kernel, by decide +kernel⟩

/-- x is a tuple whose items are ys, all known -/
def RuleT (H : Hp) (x : V) (ys : List V) : Prop := ∃ a, x = .ref a ∧ H a = some (.tup ys) ∧ KnT H ys ∧ ∀ b ns, V.ref b ∈ ys → H b = some (.tup ns) → KnT H ns
theorem kn_tup {H : Hp} {b : Addr} (k : Kn H (.ref b)) : ∃ ns, H b = some (.tup ns) := by
  cases k with
  | flat h => cases h
  | tup h => exact ⟨_, h⟩
theorem RuleT.ex {H H' : Hp} {x : V} {ys : List V} (r : RuleT H x ys) (e : Ex H H') : RuleT H' x ys := by
  obtain ⟨a, h1, h2, h3, h4⟩ := r
  refine ⟨a, h1, e _ _ h2, h3.ex e, fun b ns hb hn => ?_⟩
  obtain ⟨ms, hm⟩ := kn_tup (h3.kn _ hb)
  have := e _ _ hm
  rw [hn] at this
  cases this
  exact (h4 b ns hb hm).ex e
theorem ruleV_ex {H H' : Hp} {x : V} {ys : List V} {r : Int} (h : RuleT H x ys) (e : Ex H H') : ruleV H' r ys = ruleV H r ys := by
  obtain ⟨a, h1, h2, h3, h4⟩ := h
  match ys, h3 with
  | [l, n, m, p], h3 =>
    show (letterV l && (needsV H' r l n && (roomV r m && priceV 1 p))) = (letterV l && (needsV H r l n && (roomV r m && priceV 1 p)))
    have : needsV H' r l n = needsV H r l n := by
      cases n with
      | ref b =>
        obtain ⟨ns, hn⟩ := kn_tup (h3.kn (.ref b) (by simp))
        show (match H' b with
          | some (.tup ns) => decide (ns.length = arV l) && ns.all (roomV r)
          | _ => false) = (match H b with
          | some (.tup ns) => decide (ns.length = arV l) && ns.all (roomV r)
          | _ => false)
        rw [hn, e _ _ hn]
      | _ => rfl
    rw [this]
  | [], _ | [_], _ | [_, _], _ | [_, _, _], _ | _ :: _ :: _ :: _ :: _ :: _, _ => rfl
def spCkRules (K : PySem.W.Frag) (CA : Addr) : Sp := fun vs H Q E => ∃ (r : Int) (l : Addr) (xs : List V) (yss : List (List V)), vs = [.int r, .ref l] ∧ SqL K H l xs ∧ xs.length ≤ 100000 ∧ Paired (RuleT H) xs yss ∧ ((∀ ys ∈ yss, ruleV H r ys = true) → ∀ H', Ex H H' → Q .non H') ∧
  (∀ i ys, yss[i]? = some ys → ruleV H r ys = false → (∀ j z, j < i → yss[j]? = some z → ruleV H r z = true) → Out E H CA "InvalidRule" "index" (.int (i : Nat)))
section
variable {P : Program} {w : World} {K : PySem.W.Frag} {mg : Str → Option Value} {base : Heap}
theorem ok_check_rules {CA : Addr} {f : Addr} {fd : FuncData} (F : FnP K "check_rules" s_check_rules f fd) (mE : mg "enumerate" = none) (xI : ExK P w K mg base "InvalidRule" CA (fs1 "InvalidRule" "index")) (cR : Cal P w K mg base CX0 "is_rule" 3 2 spIsRule) :
    FnOk P w K mg base (L2.CX P w) 4 f fd P_check_rules (spCkRules K CA) := by
  refine fn_okR F sc_check_rules (fun vs H Q E ⟨r, l, _, _, h, _⟩ => by rw [h]; rfl) fun X vs H Q E C hfn tk hcd hql ⟨r, l, xs, yss, hv, hl, hx, hp, hq, he⟩ => ?_
  subst hv
  have n_rooms : Nm X "rooms" 0 := C.nm rfl (by decide +kernel)
  have n_rules : Nm X "rules" 1 := C.nm rfl (by decide +kernel)
  have n_index : Nm X "index" 2 := C.nm rfl (by decide +kernel)
  have n_rule : Nm X "rule" 3 := C.nm rfl (by decide +kernel)
  have w_index : Ns X "index" 2 := C.ns rfl (by decide +kernel) (.inl (hfn _))
  have w_rule : Ns X "rule" 3 := C.ns rfl (by decide +kernel) (.inl (hfn _))
  refine b_cons ?_
  refine s_for C (i_enum (C.gl (by decide +kernel)) (by rw [C.mgl]; exact mE) ?_)
  kpc_turns
  refine ⟨l, xs, rfl, by rw [C.frg]; exact hl, _, _, _, fun i σ H' => ∃ o2 o3, σ = [some (.int r), some (.ref l), o2, o3] ∧ Ex H H' ∧ ∀ j z, j < i → yss[j]? = some z → ruleV H r z = true, walk_enum l xs, ⟨none, none, rfl, Evl.Ex.refl _, fun j z h => absurd h (Nat.not_lt_zero j)⟩, fun i σ H' _ ⟨_, _, _, e, _⟩ => by rw [C.frg]; exact ex_l e hl, ?_, ?_⟩
  · rintro i x σ H1 H2 hi ⟨o2, o3, rfl, e1, hb⟩ e2 ⟨T, y, rfl, hy, hT⟩
    obtain ⟨ys, hys, hr⟩ := paired_get hp i y hy
    have e12 := e1.trans e2
    have hr2 := hr.ex e12
    have hv := ruleV_ex (r := r) hr e12
    obtain ⟨a, rfl, ha, hk, hn⟩ := hr2
    refine g_tup C (SqT.of hT) ?_
    kpc_turns
    refine ⟨a, ys, r, rfl, ha, hk, hn, fun H3 e3 => ?_⟩
    rw [hv]
    cases hc : ruleV H r ys with
    | true =>
      kpc_turns
      refine ⟨_, _, rfl, e12.trans e3, fun j z hj hz => ?_⟩
      by_cases e : j = i
      · subst e
        rw [hys] at hz
        cases hz
        exact hc
      · exact hb j z (by omega) hz
    | false =>
      kpc_turns
      refine s_raise C xI tk (by decide) ?_
      kpc_turns
      intro d nd
      exact he i ys hys hc hb d _ ((e12.trans e3).trans (Evl.Ex.new nd)) upd_same
  · rintro σ H1 ⟨o2, o3, rfl, e1, hb⟩
    kpc_turns
    exact hq (fun ys hy => by
      obtain ⟨j, hj⟩ := List.mem_iff_getElem?.mp hy
      have hlt := (List.getElem?_eq_some_iff.mp hj).1
      exact hb j ys (by rw [paired_len hp]; exact hlt) hj) H1 e1
def MoveT (H : Hp) (x : V) (ys : List V) : Prop := ∃ a, x = .ref a ∧ H a = some (.tup ys) ∧ KnT H ys
theorem MoveT.ex {H H' : Hp} {x : V} {ys : List V} (r : MoveT H x ys) (e : Ex H H') : MoveT H' x ys := by
  obtain ⟨a, h1, h2, h3⟩ := r
  exact ⟨a, h1, e _ _ h2, h3.ex e⟩
/-- the rooms of a move -/
def pairI : List V → List Int
  | .int i :: .int j :: _ => [i, j]
  | _ => []
/-- the first tuple that is no move, or has the rooms of an earlier one -/
def badM (r : Int) : List (List Int) → Nat → List (List V) → Option Nat
  | _, _, [] => none
  | seen, i, ys :: rest => if moveV r ys = true ∧ pairI ys ∉ seen then badM r (pairI ys :: seen) (i + 1) rest else some i
theorem badM_cons {r : Int} {seen : List (List Int)} {i : Nat} {ys : List V} {rest : List (List V)} : badM r seen i (ys :: rest) = if moveV r ys = true ∧ pairI ys ∉ seen then badM r (pairI ys :: seen) (i + 1) rest else some i := rfl
theorem moveV_yes {r : Int} {ys : List V} (h : moveV r ys = true) : ∃ i j p : Int, ys = [.int i, .int j, .int p] ∧ (0 ≤ i ∧ i < r) ∧ (0 ≤ j ∧ j < r) ∧ i ≠ j ∧ 0 ≤ p ∧ p ≤ 99 := by
  match ys, h with
  | [x, y, p], h =>
    have h : (roomV r x && (roomV r y && (!decide (x = y) && priceV 0 p))) = true := h
    simp only [Bool.and_eq_true, Bool.not_eq_true', decide_eq_false_iff_not] at h
    obtain ⟨h1, h2, h3, h4⟩ := h
    obtain ⟨i, rfl, i0, i1⟩ := roomV_yes h1
    obtain ⟨j, rfl, j0, j1⟩ := roomV_yes h2
    cases p with
    | int p =>
      have h4 : (decide (0 ≤ p) && decide (p ≤ 99)) = true := h4
      simp only [Bool.and_eq_true, decide_eq_true_eq] at h4
      exact ⟨i, j, p, rfl, ⟨i0, i1⟩, ⟨j0, j1⟩, fun e => h3 (by rw [e]), h4.1, h4.2⟩
    | _ => cases h4
def spCkMoves (K : PySem.W.Frag) (CA : Addr) : Sp := fun vs H Q E => ∃ (r : Int) (l : Addr) (xs : List V) (yss : List (List V)) (b0 : Bool), vs = [.int r, .ref l] ∧ SqB K b0 H l xs ∧ xs.length ≤ 12 ∧ Paired (MoveT H) xs yss ∧
  (badM r [] 0 yss = none → ∀ H', Ex H H' → Q .non H') ∧ (∀ i, badM r [] 0 yss = some i → Out E H CA "InvalidMove" "index" (.int (i : Nat)))
theorem ok_check_moves {CA : Addr} {f : Addr} {fd : FuncData} (F : FnP K "check_moves" s_check_moves f fd) (mE : mg "enumerate" = none) (mS : mg "set" = none) (xI : ExK P w K mg base "InvalidMove" CA (fs1 "InvalidMove" "index")) (cM : Cal P w K mg base CX0 "is_move" 3 2 spIsMove) :
    FnOk P w K mg base (L2.CX P w) 4 f fd P_check_moves (spCkMoves K CA) := by
  refine fn_okR F sc_check_moves (fun vs H Q E ⟨r, l, _, _, _, h, _⟩ => by rw [h]; rfl) fun X vs H Q E C hfn tk hcd hql ⟨r, l, xs, yss, b0, hv, hl, hx, hp, hq, he⟩ => ?_
  subst hv
  have n_rooms : Nm X "rooms" 0 := C.nm rfl (by decide +kernel)
  have n_moves : Nm X "moves" 1 := C.nm rfl (by decide +kernel)
  have n_seen : Nm X "seen" 2 := C.nm rfl (by decide +kernel)
  have n_index : Nm X "index" 3 := C.nm rfl (by decide +kernel)
  have n_move : Nm X "move" 4 := C.nm rfl (by decide +kernel)
  have w_seen : Ns X "seen" 2 := C.ns rfl (by decide +kernel) (.inl (hfn _))
  have w_index : Ns X "index" 3 := C.ns rfl (by decide +kernel) (.inl (hfn _))
  have w_move : Ns X "move" 4 := C.ns rfl (by decide +kernel) (.inl (hfn _))
  refine b_cons ?_
  kpc_turns
  intro sa H0 nsa e0 hsa
  kpc_turns
  refine s_for C (i_enumB (b := b0) (C.gl (by decide +kernel)) (by rw [C.mgl]; exact mE) ?_)
  kpc_turns
  refine ⟨l, xs, rfl, by rw [C.frg]; exact hl.ex e0, _, _, _, fun i σ H' => ∃ o3 o4 L seen, σ = [some (.int r), some (.ref l), some (.ref sa), o3, o4] ∧ Ex H H' ∧ H' sa = some (SetTO P w sa L) ∧ (∀ p ∈ L, SqT X.K H' p.1 (p.2.map V.int)) ∧ badM r [] 0 yss = badM r seen i (yss.drop i) ∧ (∀ k, k ∈ L.map (·.2) ↔ k ∈ seen) ∧ L.length ≤ i, walk_enumB b0 l xs,
    ⟨none, none, [], [], rfl, e0, hsa, fun _ h => (by cases h), rfl, fun k => Iff.rfl, Nat.le_refl 0⟩, fun i σ H' _ ⟨_, _, _, _, _, e, _⟩ => by rw [C.frg]; exact hl.ex e, ?_, ?_⟩
  · rintro i x σ H1 H2 hi ⟨o3, o4, L, seen, rfl, e1, hs1, ht1, hb, hsn, hL⟩ e2 ⟨T, y, rfl, hy, hT⟩
    obtain ⟨ys, hys, hr⟩ := paired_get hp i y hy
    have e12 := e1.trans e2
    obtain ⟨a, rfl, ha, hk⟩ := hr.ex e12
    have hlt : i < yss.length := (List.getElem?_eq_some_iff.mp hys).1
    have hd : yss.drop i = ys :: yss.drop (i + 1) := by rw [List.drop_eq_getElem_cons hlt, (List.getElem?_eq_some_iff.mp hys).2]
    rw [hd, badM_cons] at hb
    have hs2 := e2 _ _ hs1
    have ht2 : ∀ p ∈ L, SqT X.K H2 p.1 (p.2.map V.int) := fun p hp => ex_t e2 (ht1 p hp)
    refine g_tup C (SqT.of hT) ?_
    kpc_turns
    refine ⟨a, ys, r, rfl, ha, hk, ?_⟩
    cases hc : moveV r ys with
    | false =>
      rw [if_neg (by rw [hc]; simp)] at hb
      kpc_turns
      refine s_raise C xI tk (by decide) ?_
      kpc_turns
      intro d nd
      exact he i hb d _ (e12.trans (Evl.Ex.new nd)) upd_same
    | true =>
    obtain ⟨i1, j1, p1, rfl, _⟩ := moveV_yes hc
    have hpi : pairI [.int i1, .int j1, .int p1] = [i1, j1] := rfl
    rw [hpi] at hb
    kpc_turns
    refine t_sl (SqT.of ha) fun b H3 e3 hb3 => ?_
    have hcut : cutV [.int i1, .int j1, .int p1] none (some 2) = ([i1, j1] : List Int).map V.int := rfl
    rw [hcut] at hb3
    kpc_turns
    refine o_inSetT C hb3 (e3 _ _ hs2) (fun p hp => ex_t e3 (ht2 p hp)) ?_
    by_cases hm : [i1, j1] ∈ L.map (·.2)
    · rw [decide_eq_true hm]
      rw [if_neg (fun z => z.2 ((hsn _).mp hm))] at hb
      kpc_turns
      refine s_raise C xI tk (by decide) ?_
      kpc_turns
      intro d nd
      exact he i hb d _ ((e12.trans e3).trans (Evl.Ex.new nd)) upd_same
    · rw [decide_eq_false hm]
      rw [if_pos ⟨hc, fun z => hm ((hsn _).mpr z)⟩] at hb
      kpc_turns
      refine ⟨sa, L, rfl, e3 _ _ hs2, fun p hp => ex_t e3 (ht2 p hp), ?_⟩
      kpc_turns
      refine t_sl (SqT.of (e3 _ _ ha)) fun b4 H4 e4 hb4 => ?_
      rw [hcut] at hb4
      have e34 := e3.trans e4
      refine ⟨b4, [i1, j1], rfl, e34 _ _ hs2, hb4, fun p hp => ex_t e34 (ht2 p hp), by omega, fun L' H5 x5 hs5 _ pm => ?_⟩
      kpc_turns
      have pm := pm hm
      have t5 : ∀ {b : Addr} {zs : List V}, SqT X.K H4 b zs → SqT X.K H5 b zs := fun {b zs} h => by
        rcases h with (h | ⟨o, h⟩) | h
        · exact .inl (.inl (x5 _ _ (fun z => by rw [z, e34 _ _ hs2] at h; unfold SetTO at h; cases h) h))
        · exact .inl (.inr ⟨o, x5 _ _ (fun z => by rw [z, e34 _ _ hs2] at h; unfold SetTO at h; cases h) h⟩)
        · exact .inr h
      refine ⟨_, _, L', _, rfl, Xb.ex ((e12.trans e3).trans e4) nsa x5, hs5, fun p hp => ?_, hb, fun k => ?_, by rw [pm.length_eq, List.length_cons]; omega⟩
      · rcases List.mem_cons.mp (pm.mem_iff.mp hp) with e | h
        · subst e
          exact t5 hb4
        · exact t5 (ex_t e34 (ht2 p h))
      · rw [(pm.map _).mem_iff, List.map_cons, List.mem_cons, List.mem_cons, hsn k]
  · rintro σ H1 ⟨o3, o4, L, seen, rfl, e1, hs1, ht1, hb, hsn, hL⟩
    rw [paired_len hp, List.drop_length] at hb
    kpc_turns
    exact hq hb H1 e1
def spCkJoined (CA : Addr) : Sp := fun vs H Q E => ∃ (r : Nat) (l : Addr) (ds : List Addr) (rch : Nat → Nat → Bool), vs = [.int r, .ref l] ∧ r ≤ 1000 ∧ H l = some (.lst (ds.map V.ref)) ∧ ds.length = r ∧
  (∀ i d, ds[i]? = some d → ∃ kvs, H d = some (.dK kvs) ∧ ∀ j, j < r → (valV kvs (.inl (j : Int))).isSome = rch i j) ∧ ((∀ i j, i < r → j < r → rch i j = true) → ∀ H', Ex H H' → Q .non H') ∧
  ∀ i j, i < r → j < r → (rch i j = false ∨ rch j i = false) → (∀ i' j', i' < i → j' < r → rch i' j' = true ∧ rch j' i' = true) → Out E H CA "Unjoined" "room" (.int (i : Nat))
theorem ok_check_joined {CA : Addr} {f : Addr} {fd : FuncData} (F : FnP K "check_joined" s_check_joined f fd) (mR : mg "range" = none) (xU : ExK P w K mg base "Unjoined" CA (fs1 "Unjoined" "room")) : FnOk P w K mg base (L2.CX P w) 3 f fd P_check_joined (spCkJoined CA) := by
  refine fn_okR F sc_check_joined (fun vs H Q E ⟨r, l, _, _, h, _⟩ => by rw [h]; rfl) fun X vs H Q E C hfn tk hcd hql ⟨r, l, ds, rch, hv, hr, hl, hds, hd, hq, he⟩ => ?_
  subst hv
  have n_rooms : Nm X "rooms" 0 := C.nm rfl (by decide +kernel)
  have n_ways : Nm X "ways" 1 := C.nm rfl (by decide +kernel)
  have n_room : Nm X "room" 2 := C.nm rfl (by decide +kernel)
  have n_other : Nm X "other" 3 := C.nm rfl (by decide +kernel)
  have w_room : Ns X "room" 2 := C.ns rfl (by decide +kernel) (.inl (hfn _))
  have w_other : Ns X "other" 3 := C.ns rfl (by decide +kernel) (.inl (hfn _))
  refine b_cons ?_
  refine s_for C (i_range1 (C.gl (by decide +kernel)) (by rw [C.mgl]; exact mR) ?_)
  kpc_turns
  refine ⟨by omega, by omega, _, _, _, fun i σ H' => ∃ o2 o3, σ = [some (.int r), some (.ref l), o2, o3] ∧ Ex H H' ∧ ∀ i' j', i' < i → j' < r → rch i' j' = true ∧ rch j' i' = true, walk_range 0 _, ⟨none, none, rfl, Evl.Ex.refl _, fun _ _ h => absurd h (Nat.not_lt_zero _)⟩, fun _ _ _ _ _ => trivial, ?_, ?_⟩
  · rintro i x σ H1 H2 hi ⟨o2, o3, rfl, e1, hb⟩ e2 hx
    have hx : x = .int (i : Nat) := by rw [hx, Int.zero_add]
    subst hx
    have hi : i < r := by omega
    obtain ⟨di, hdi⟩ : ∃ di, ds[i]? = some di := ⟨_, List.getElem?_eq_getElem (by omega)⟩
    obtain ⟨kvi, hki, hri⟩ := hd i di hdi
    have e12 := e1.trans e2
    have at_ : ∀ (n : Nat) (d : Addr), ds[n]? = some d → atI (ds.map V.ref) (n : Int) = some (.ref d) := fun n d h => at_ok (by omega) (by rw [List.getElem?_map]; simp [h])
    kpc_turns
    refine s_for C (i_range1 (C.gl (by decide +kernel)) (by rw [C.mgl]; exact mR) ?_)
    kpc_turns
    refine ⟨by omega, by omega, _, _, _, fun j σ H' => ∃ o3, σ = [some (.int r), some (.ref l), some (.int (i : Nat)), o3] ∧ Ex H H' ∧ ∀ j', j' < j → rch i j' = true ∧ rch j' i = true, walk_range 0 _, ⟨o3, rfl, e12, fun _ h => absurd h (Nat.not_lt_zero _)⟩, fun _ _ _ _ _ => trivial, ?_, ?_⟩
    · rintro j x σ H3 H4 hj ⟨o3, rfl, e3, hc⟩ e4 hx
      have hx : x = .int (j : Nat) := by rw [hx, Int.zero_add]
      subst hx
      have hj : j < r := by omega
      obtain ⟨dj, hdj⟩ : ∃ dj, ds[j]? = some dj := ⟨_, List.getElem?_eq_getElem (by omega)⟩
      obtain ⟨kvj, hkj, hrj⟩ := hd j dj hdj
      have e34 := e3.trans e4
      have bad : (rch i j = false ∨ rch j i = false) → ∀ d, H4 d = none → WE E (.ref CA) (some d) [some (V.int (r : Nat)), some (.ref l), some (.int (i : Nat)), some (.int (j : Nat))] (upd H4 d (.xd (fs1 "Unjoined" "room" (.int (i : Nat))))) := fun h d nd =>
        he i j hi hj h hb d _ (e34.trans (Evl.Ex.new nd)) upd_same
      kpc_turns
      refine x_l (SqL.of (e34 _ _ hl)) (at_ i di hdi) ?_
      refine o_ninDk C (DGet.k (k := .inl (j : Int)) (e34 _ _ hki)) ?_
      rw [hri j hj]
      cases h1 : rch i j with
      | false =>
        kpc_turns
        refine s_raise C xU tk (by decide) ?_
        kpc_turns
        exact bad (.inl h1)
      | true =>
      kpc_turns
      refine x_l (SqL.of (e34 _ _ hl)) (at_ j dj hdj) ?_
      refine o_ninDk C (DGet.k (k := .inl (i : Int)) (e34 _ _ hkj)) ?_
      rw [hrj i hi]
      cases h2 : rch j i with
      | false =>
        kpc_turns
        refine s_raise C xU tk (by decide) ?_
        kpc_turns
        exact bad (.inr h2)
      | true =>
      kpc_turns
      refine ⟨_, rfl, e34, fun j' h => ?_⟩
      by_cases e : j' = j
      · subst e; exact ⟨h1, h2⟩
      · exact hc j' (by omega)
    · rintro σ H3 ⟨o3, rfl, e3, hc⟩
      kpc_turns
      refine ⟨_, _, rfl, e3, fun i' j' h h' => ?_⟩
      by_cases e : i' = i
      · subst e; exact hc j' (by omega)
      · exact hb i' j' (by omega) h'
  · rintro σ H1 ⟨o2, o3, rfl, e1, hb⟩
    kpc_turns
    exact hq (fun i j h1 h2 => (hb i j (by omega) h2).1) H1 e1
end

/-! a chooser is made -/
abbrev s_Chooser___init__ : Stmt := inClass (topS 63) 3
abbrev N_Chooser___init__ : List Str := ["self", "rooms", "rules", "moves", "room", "rule"]
abbrev P_Chooser___init__ : List Str := ["self", "rooms", "rules", "moves"]
theorem sc_Chooser___init__ : FnScope N_Chooser___init__ P_Chooser___init__ (defScope s_Chooser___init__) := ⟨rfl, rfl, rfl, by decide +kernel, rfl, by decide +kernel, by decide +kernel⟩

/-- a rule's data: letter, rooms, room, price -/
structure Rul where
  c : Nat
  needs : List Nat
  room : Nat
  price : Nat
deriving DecidableEq
def Rul.ok (r : Nat) (u : Rul) : Prop := u.c ∈ tl zLetters ∧ u.needs.length = ar u.c ∧ (∀ n ∈ u.needs, n < r) ∧ u.room < r ∧ 1 ≤ u.price ∧ u.price ≤ 99
/-- v is the tuple of the rule u -/
def Rt (H : Hp) (v : V) (u : Rul) : Prop := ∃ T N, v = .ref T ∧ H T = some (.tup [.str ⟨#[u.c]⟩, .ref N, nV u.room, nV u.price]) ∧ H N = some (.tup (u.needs.map nV))
theorem Rt.ex {H H' : Hp} {v : V} {u : Rul} (h : Rt H v u) (e : Ex H H') : Rt H' v u := by
  obtain ⟨T, N, h1, h2, h3⟩ := h
  exact ⟨T, N, h1, e _ _ h2, e _ _ h3⟩
theorem knT_ints {H : Hp} {ns : List Nat} (h : ns.length ≤ 100000) : KnT H (ns.map nV) := ⟨by rw [List.length_map]; exact h, fun x hx => by
  obtain ⟨n, _, rfl⟩ := List.mem_map.mp hx
  exact .flat rfl, fun z hz => by
  obtain ⟨n, _, e⟩ := List.mem_map.mp hz
  cases e⟩
def rulL (N : Addr) (u : Rul) : List V := [.str ⟨#[u.c]⟩, .ref N, nV u.room, nV u.price]
/-- .. of known items, a rule -/
theorem Rt.rule {H : Hp} {v : V} {u : Rul} {r : Nat} (h : Rt H v u) (ok : u.ok r) : ∃ N, RuleT H v (rulL N u) ∧ ruleV H r (rulL N u) = true := by
  obtain ⟨T, N, rfl, h2, h3⟩ := h
  have ha : ar u.c ≤ 2 := by unfold ar; split <;> (try split) <;> omega
  refine ⟨N, ⟨T, rfl, h2, ⟨by show 4 ≤ 100000; decide, fun x hx => ?_, fun z hz => ?_⟩, fun b ns hb hn => ?_⟩, ?_⟩
  · simp only [rulL, List.mem_cons, List.not_mem_nil, or_false] at hx
    rcases hx with rfl | rfl | rfl | rfl
    · exact .flat rfl
    · exact .tup h3
    · exact .flat rfl
    · exact .flat rfl
  · simp only [rulL, nV, List.mem_cons, List.not_mem_nil, or_false] at hz
    rcases hz with e | e | e | e
    · cases e; show 1 ≤ 100000; decide
    · cases e
    · cases e
    · cases e
  · simp only [rulL, nV, List.mem_cons, List.not_mem_nil, or_false] at hb
    rcases hb with e | e | e | e
    · cases e
    · cases e
      rw [h3] at hn
      cases hn
      exact knT_ints (by rw [ok.2.1]; omega)
    · cases e
    · cases e
  · show (letterV (.str ⟨#[u.c]⟩) && ((match H N with
      | some (.tup ns) => decide (ns.length = arV (.str ⟨#[u.c]⟩)) && ns.all (roomV r)
      | _ => false) && (roomV r (nV u.room) && priceV 1 (nV u.price)))) = true
    rw [h3]
    obtain ⟨h1, h2, h3, h4, h5, h6⟩ := ok
    have e1 : letterV (.str ⟨#[u.c]⟩) = true := decide_eq_true h1
    have e2 : arV (.str ⟨#[u.c]⟩) = ar u.c := rfl
    have e3 : (u.needs.map nV).all (roomV r) = true := by
      rw [List.all_eq_true]
      intro x hx
      obtain ⟨n, hn, rfl⟩ := List.mem_map.mp hx
      have := h3 n hn
      show (decide ((0 : Int) ≤ n) && decide ((n : Int) < r)) = true
      rw [decide_eq_true (by omega), decide_eq_true (by omega)]
      rfl
    have e4 : roomV r (nV u.room) = true := by
      show (decide ((0 : Int) ≤ u.room) && decide ((u.room : Int) < r)) = true
      rw [decide_eq_true (by omega), decide_eq_true (by omega)]
      rfl
    have e5 : priceV 1 (nV u.price) = true := by
      show (decide ((1 : Int) ≤ u.price) && decide ((u.price : Int) ≤ 99)) = true
      rw [decide_eq_true (by omega), decide_eq_true (by omega)]
      rfl
    rw [e1, e4, e5]
    show (true && ((decide ((u.needs.map nV).length = arV _) && (u.needs.map nV).all (roomV r)) && (true && true))) = true
    rw [e3, e2, List.length_map, decide_eq_true h2]
    rfl
/-- moves between rooms below r, each pair once -/
structure MvOk (r : Nat) (mv : List Mv) : Prop where
  len : mv.length ≤ 12
  ok : ∀ m ∈ mv, m.1 < r ∧ m.2.1 < r ∧ m.1 ≠ m.2.1 ∧ m.2.2 ≤ 99
  nd : (mv.map fun m => (m.1, m.2.1)).Nodup
def mvL (m : Mv) : List V := [nV m.1, nV m.2.1, nV m.2.2]
theorem Mt.move {H : Hp} {v : V} {m : Mv} (h : Mt H v m) : MoveT H v (mvL m) := by
  obtain ⟨T, h1, h2⟩ := h
  refine ⟨T, h1, h2, ⟨by show 3 ≤ 100000; decide, fun x hx => ?_, fun z hz => ?_⟩⟩
  · simp only [mvL, List.mem_cons, List.not_mem_nil, or_false] at hx
    rcases hx with rfl | rfl | rfl <;> exact .flat rfl
  · simp only [mvL, nV, List.mem_cons, List.not_mem_nil, or_false] at hz
    rcases hz with e | e | e <;> cases e
theorem badM_ok {r : Nat} : ∀ {mv : List Mv} {seen : List (List Int)} {i : Nat}, (∀ m ∈ mv, m.1 < r ∧ m.2.1 < r ∧ m.1 ≠ m.2.1 ∧ m.2.2 ≤ 99) → (mv.map fun m => (m.1, m.2.1)).Nodup → (∀ m ∈ mv, [(m.1 : Int), (m.2.1 : Int)] ∉ seen) → badM r seen i (mv.map mvL) = none
  | [], _, _, _, _, _ => rfl
  | m :: mv, seen, i, h, nd, hs => by
    obtain ⟨h1, h2, h3, h4⟩ := h m (List.mem_cons_self ..)
    rw [List.map_cons, badM_cons]
    have hv : moveV r (mvL m) = true := by
      show (roomV r (nV m.1) && (roomV r (nV m.2.1) && (!decide (nV m.1 = nV m.2.1) && priceV 0 (nV m.2.2)))) = true
      have e1 : roomV r (nV m.1) = true := by
        show (decide ((0 : Int) ≤ m.1) && decide ((m.1 : Int) < r)) = true
        rw [decide_eq_true (by omega), decide_eq_true (by omega)]; rfl
      have e2 : roomV r (nV m.2.1) = true := by
        show (decide ((0 : Int) ≤ m.2.1) && decide ((m.2.1 : Int) < r)) = true
        rw [decide_eq_true (by omega), decide_eq_true (by omega)]; rfl
      have e3 : priceV 0 (nV m.2.2) = true := by
        show (decide ((0 : Int) ≤ m.2.2) && decide ((m.2.2 : Int) ≤ 99)) = true
        rw [decide_eq_true (by omega), decide_eq_true (by omega)]; rfl
      have e4 : nV m.1 ≠ nV m.2.1 := fun z => h3 (by
        have := V.int.inj z
        omega)
      rw [e1, e2, e3, decide_eq_false e4]
      rfl
    rw [if_pos ⟨hv, hs m (List.mem_cons_self ..)⟩]
    have nd2 := List.nodup_cons.mp (show (((m.1, m.2.1) :: mv.map fun m => (m.1, m.2.1)) : List (Nat × Nat)).Nodup from nd)
    refine badM_ok (fun q hq => h q (List.mem_cons_of_mem _ hq)) nd2.2 fun q hq z => ?_
    rcases List.mem_cons.mp z with e | z
    · have e : [(q.1 : Int), (q.2.1 : Int)] = [(m.1 : Int), (m.2.1 : Int)] := e
      injection e with e1 e2
      injection e2 with e2 _
      exact nd2.1 (List.mem_map.mpr ⟨q, hq, by rw [show q.1 = m.1 by omega, show q.2.1 = m.2.1 by omega]⟩)
    · exact hs q (List.mem_cons_of_mem _ hq) z
theorem rules_paired {Hb H : Hp} {r : Nat} : ∀ {xs : List V} {us : List Rul}, Paired (Rt Hb) xs us → (∀ u ∈ us, u.ok r) → Ex Hb H → ∃ yss, Paired (RuleT H) xs yss ∧ ∀ ys ∈ yss, ruleV H r ys = true
  | _, _, .nil, _, _ => ⟨[], .nil, fun _ z => by cases z⟩
  | _, _, .cons (b := u) h t, hok, e => by
    obtain ⟨yss, q1, q2⟩ := rules_paired t (fun v hv => hok v (List.mem_cons_of_mem _ hv)) e
    obtain ⟨N, q3, q4⟩ := (h.ex e).rule (hok u (List.mem_cons_self ..))
    exact ⟨_ :: yss, .cons q3 q1, fun ys hy => by
      rcases List.mem_cons.mp hy with e | hy
      · rw [e]; exact q4
      · exact q2 ys hy⟩
theorem moves_paired {H : Hp} : ∀ {xs : List V} {mv : List Mv}, Paired (Mt H) xs mv → Paired (MoveT H) xs (mv.map mvL)
  | _, _, .nil => .nil
  | _, _, .cons h t => .cons h.move (moves_paired t)
theorem refs_of : ∀ (ys : List V) {R : Nat → Addr → Prop}, (∀ t y, ys[t]? = some y → ∃ d, y = V.ref d ∧ R t d) → ∃ ds : List Addr, ys = ds.map V.ref ∧ ∀ t d, ds[t]? = some d → R t d
  | [], R, _ => ⟨[], rfl, fun _ _ h => by cases h⟩
  | y :: ys, R, h => by
    obtain ⟨d, e, r⟩ := h 0 y rfl
    obtain ⟨ds, e2, h2⟩ := refs_of ys (R := fun t => R (t + 1)) fun t z hz => h (t + 1) z (by simpa using hz)
    refine ⟨d :: ds, by rw [e, e2]; rfl, fun t x hx => ?_⟩
    cases t with
    | zero => cases hx; exact r
    | succ t => exact h2 t x (by simpa using hx)
def Joined (r : Nat) (mv : List Mv) : Prop := ∀ i j, i < r → j < r → ∃ p, p ∈ fromW mv (startW i) ∧ goalW p.2.2 = j
def chF (wl : Addr) (r : Nat) (rr mr : Addr) (z : Str) : List (Str × V) := putF "letter_row" (.str z) (putF "move_row" (.ref mr) (putF "rule_row" (.ref rr) (putF "many_rooms" (.int r) (putF "ways" (.ref wl) []))))
/-- z: the letters of the rules, in ascending order -/
def LetOf (rus : List Rul) (z : Str) : Prop := (tl z).Pairwise (· < ·) ∧ ∀ c, c ∈ tl z ↔ ∃ u, u ∈ rus ∧ u.c = c
/-- the ways from room to room -/
def WaysAt (H : Hp) (mv : List Mv) (ds : List Addr) : Prop := ∀ i d, ds[i]? = some d → ∃ kvs B, H d = some (.dK kvs) ∧ DW H kvs B ∧ Best (fun p => p ∈ fromW mv (startW i)) B
/-- a is a chooser -/
def ChO (CC : Addr) (H : Hp) (a : Addr) (r : Nat) (rus : List Rul) (mv : List Mv) : Prop := ∃ dx wl rr mr z ds rxs mxs, H a = some (.ins CC dx (chF wl r rr mr z)) ∧ H wl = some (.lst (ds.map V.ref)) ∧ ds.length = r ∧ WaysAt H mv ds ∧
  H rr = some (.lst rxs) ∧ Paired (Rt H) rxs rus ∧ H mr = some (.lst mxs) ∧ Paired (Mt H) mxs mv ∧ LetOf rus z
/-- tuples, lists and dicts stay -/
structure KP (H H' : Hp) : Prop where
  t : ∀ b xs, H b = some (.tup xs) → H' b = some (.tup xs)
  l : ∀ b xs, H b = some (.lst xs) → H' b = some (.lst xs)
  d : ∀ b kvs, H b = some (.dK kvs) → H' b = some (.dK kvs)
theorem KP.refl (H : Hp) : KP H H := ⟨fun _ _ h => h, fun _ _ h => h, fun _ _ h => h⟩
theorem KP.trans {H H1 H2 : Hp} (a : KP H H1) (b : KP H1 H2) : KP H H2 := ⟨fun c x h => b.t c x (a.t c x h), fun c x h => b.l c x (a.l c x h), fun c x h => b.d c x (a.d c x h)⟩
theorem KP.ex {H H' : Hp} (e : Ex H H') : KP H H' := ⟨fun _ _ h => e _ _ h, fun _ _ h => e _ _ h, fun _ _ h => e _ _ h⟩
theorem KP.ins {H : Hp} {a C dx : Addr} {fs : List (Str × V)} {o : HO} (ha : H a = some (.ins C dx fs)) : KP H (upd H a o) :=
  ⟨fun b x h => by rw [upd_ne (fun z => by rw [z, ha] at h; cases h)]; exact h, fun b x h => by rw [upd_ne (fun z => by rw [z, ha] at h; cases h)]; exact h, fun b x h => by rw [upd_ne (fun z => by rw [z, ha] at h; cases h)]; exact h⟩
theorem WaysAt.kp {H H' : Hp} {mv : List Mv} {ds : List Addr} (h : WaysAt H mv ds) (k : KP H H') : WaysAt H' mv ds := fun i d hi => by
  obtain ⟨kvs, B, h1, h2, h3⟩ := h i d hi
  exact ⟨kvs, B, k.d _ _ h1, h2.tk k.t, h3⟩
theorem Rt.tk {H H' : Hp} {v : V} {u : Rul} (h : Rt H v u) (k : TK H H') : Rt H' v u := by
  obtain ⟨T, N, h1, h2, h3⟩ := h
  exact ⟨T, N, h1, k _ _ h2, k _ _ h3⟩
def leafB (rus : List Rul) (i : Nat) : V := .bl (decide ((0 : Int) < ar ((rus[i]?.map Rul.c).getD 0)))
theorem leaf_map (rus : List Rul) : (List.range rus.length).map (leafB rus) = (rus.map fun u => decide ((0 : Int) < ar u.c)).map V.bl := by
  rw [List.map_map]
  refine List.ext_getElem? fun i => ?_
  rw [List.getElem?_map, List.getElem?_map]
  by_cases h : i < rus.length
  · rw [List.getElem?_range h, List.getElem?_eq_getElem h]
    simp [leafB, List.getElem?_eq_getElem h]
  · rw [List.getElem?_eq_none (by rw [List.length_range]; omega), List.getElem?_eq_none (by omega)]
    rfl
theorem dw_isSome {H : Hp} {kvs : List (Key × V)} {B : Nat → Option Way} {S : Way → Prop} {j : Nat} (h : DW H kvs B) (b : Best S B) (hp : ∃ p, S p ∧ goalW p.2.2 = j) : (valV kvs (.inl (j : Int))).isSome = true := by
  obtain ⟨p, h1, h2⟩ := hp
  have hj := h j
  have bj := b j
  cases e : B j with
  | none =>
    rw [e] at bj
    exact absurd h2 (bj p h1)
  | some q =>
    rw [e] at hj
    obtain ⟨v, h3, _⟩ := hj
    rw [h3]
    rfl
/-- the letters gathered, once each, ascending -/
theorem let_of {ss : List Str} (hs : PyProof.Rows.sortedS ss = true) (nd : ss.Nodup) (h1 : ∀ z ∈ ss, ∃ c, z = oneS c) : ∃ cs : List Nat, ss = cs.map oneS ∧ cs.Pairwise (· < ·) := by
  obtain ⟨cs, rfl⟩ : ∃ cs : List Nat, ss = cs.map oneS := by
    clear hs nd
    induction ss with
    | nil => exact ⟨[], rfl⟩
    | cons z r ih =>
      obtain ⟨c, rfl⟩ := h1 z (List.mem_cons_self ..)
      obtain ⟨cs, rfl⟩ := ih fun w hw => h1 w (List.mem_cons_of_mem _ hw)
      exact ⟨c :: cs, rfl⟩
  refine ⟨cs, rfl, ?_⟩
  have hle : cs.Pairwise (· ≤ ·) := by
    cases cs with
    | nil => exact .nil
    | cons c r => exact rising_ones c r hs
  have hne : cs.Pairwise (· ≠ ·) := (List.pairwise_map.mp nd).imp fun h e => h (by rw [e])
  exact (hle.and hne).imp fun ⟨a, b⟩ => by omega
structure ChK (K : PySem.W.Frag) (mg : Str → Option Value) (CC : Addr) : Prop where
  cl : Cls K CC
  na : ∀ f ∈ (["ways", "many_rooms", "rule_row", "move_row", "letter_row"] : List Str), NoAttr K CC f
  c1 : ClsC K CC "MAX_ROOMS" (.int 4)
  c2 : ClsC K CC "MAX_RULES" (.int 24)
  c3 : ClsC K CC "MAX_MOVES" (.int 12)
  gl : mg "Chooser" = some (.ref CC)

/-! the errors' classes without a value -/
def fs0 (tag : Str) : List (Str × V) := [("tag", .str tag)]
def Out0 (E : XK) (H : Hp) (CA : Addr) (tag : Str) : Prop := ∀ d H', Ex H H' → H' d = some (.xd (fs0 tag)) → E (.ref CA) (some d) H'
def spExc0 (CA : Addr) (tag : Str) : Sp := fun vs H Q _ => ∃ a, vs = [.ref a] ∧ H a = some (exo a CA none) ∧ ∀ dx, H dx = none → dx ≠ a → Q .non (upd (upd H dx (exd dx (fs0 tag))) a (exo a CA (some dx)))
theorem exc_body0 {X : Cx} {σ : St} {H : Hp} {Q : VK} {CA a : Addr} {tag : Str} {p5 p6 p7 p8 : Pos} {j : Nat} (T : OexC X.K CA) (m1 : Nm X "self" 0) (n2 : PySem.W.findIn X.K (.ref CA) "tag" = some none)
    (ha : H a = some (exo a CA none)) (h0 : σ[0]? = some (some (.ref a))) (hq : ∀ dx, H dx = none → dx ≠ a → Q .non (upd (upd H dx (exd dx (fs0 tag))) a (exo a CA (some dx)))) :
    zB X [.Assign [.Attribute (.Name "self" p5) "tag" p6] (.Constant (.str tag) j p7) p8] (fun _ H' => Q .non H') Q (fun _ _ => False) (fun _ _ => False) σ H := by
  refine b_cons (s_ost (e_str (e_name m1 h0 ⟨a, CA, rfl, T, n2, .inl ⟨ha, fun dx hd hda => ?_⟩⟩)))
  exact b_nil (hq dx hd hda)
abbrev e_NoLeaf : Stmt := inClass (topS 10) 0
theorem ok_NoLeaf {P : Program} {w : World} {K : PySem.W.Frag} {mg : Str → Option Value} {base : Heap} {CA f cc cda : Addr} {fd : FuncData} (T : ExI P K CA f cc cda "__init__" "NoLeaf.__init__" (defArgs e_NoLeaf) (defBody e_NoLeaf) (defScope e_NoLeaf) fd) (mS : mg "super" = none)
    (n2 : PySem.W.findIn K (.ref CA) "tag" = some none) : FnOk P w K mg base CX0 1 f fd ["self"] (spExc0 CA "NoLeaf") := by
  refine init_ok (N := ["self", "__class__"]) (k := 0) (txt := "no rule has a leaf") T (NdefX.nscope_by (by decide +kernel)) mS (by rfl) (fun _ => rfl) (by decide +kernel) (by rfl) (by rfl) (fun vs H Q E ⟨a, h, _⟩ => by rw [h]; rfl) (fun vs H Q E ⟨a, h, ha, _⟩ => ⟨a, [], h, ha⟩) ?_
  rintro X vs H Q E C ⟨a, rfl, ha, hq⟩
  have m1 : Nm X "self" 0 := C.nm rfl (by decide +kernel)
  exact exc_body0 (by rw [C.frg]; exact T.ox) m1 (by rw [C.frg]; exact n2) ha rfl hq


/-! Chooser.__init__, where no rule may be a leaf's -/
/-- a is a chooser, its lists are new since Hb -/
def ChF (CC : Addr) (Hb H : Hp) (a : Addr) (r : Nat) (rus : List Rul) (mv : List Mv) : Prop := ∃ wl rr mr, Hb wl = none ∧ Hb rr = none ∧ Hb mr = none ∧ ∃ dx z ds rxs mxs, H a = some (.ins CC dx (chF wl r rr mr z)) ∧ H wl = some (.lst (ds.map V.ref)) ∧ ds.length = r ∧ WaysAt H mv ds ∧
  H rr = some (.lst rxs) ∧ Paired (Rt H) rxs rus ∧ H mr = some (.lst mxs) ∧ Paired (Mt H) mxs mv ∧ LetOf rus z
theorem ChF.ch {CC : Addr} {Hb H : Hp} {a : Addr} {r : Nat} {rus : List Rul} {mv : List Mv} (h : ChF CC Hb H a r rus mv) : ChO CC H a r rus mv := by
  obtain ⟨wl, rr, mr, _, _, _, dx, z, ds, rxs, mxs, h⟩ := h
  exact ⟨dx, wl, rr, mr, z, ds, rxs, mxs, h⟩
theorem ChF.exF {CC : Addr} {Hb H H' : Hp} {a : Addr} {r : Nat} {rus : List Rul} {mv : List Mv} (h : ChF CC Hb H a r rus mv) (e : Ex H H') : ChF CC Hb H' a r rus mv := by
  obtain ⟨wl, rr, mr, f1, f2, f3, dx, z, ds, rxs, mxs, h1, h2, h3, h4, h5, h6, h7, h8, h9⟩ := h
  exact ⟨wl, rr, mr, f1, f2, f3, dx, z, ds, rxs, mxs, e _ _ h1, e _ _ h2, h3, h4.kp (KP.ex e), e _ _ h5, paired_imp (fun _ _ h => h.ex e) h6, e _ _ h7, paired_imp (fun _ _ h => h.tk (TK.ex e)) h8, h9⟩
/-- a list that was there before is changed -/
theorem ChF.xb {CC : Addr} {Hb H H' : Hp} {a D : Addr} {r : Nat} {rus : List Rul} {mv : List Mv} {xs : List V} (h : ChF CC Hb H a r rus mv) (x : Z.Xb D H H') (hb : Hb D ≠ none) (hD : H D = some (.lst xs)) : ChF CC Hb H' a r rus mv := by
  obtain ⟨wl, rr, mr, f1, f2, f3, dx, z, ds, rxs, mxs, h1, h2, h3, h4, h5, h6, h7, h8, h9⟩ := h
  have hne : ∀ {b : Addr}, Hb b = none → b ≠ D := fun {b} hb' e => hb (by rw [← e]; exact hb')
  have tk : TK H H' := TK.xb hD x
  refine ⟨wl, rr, mr, f1, f2, f3, dx, z, ds, rxs, mxs, x _ _ (fun e => by rw [e, hD] at h1; cases h1) h1, x _ _ (hne f1) h2, h3, fun i d hi => ?_, x _ _ (hne f2) h5, paired_imp (fun _ _ h => h.tk tk) h6, x _ _ (hne f3) h7, paired_imp (fun _ _ h => h.tk tk) h8, h9⟩
  obtain ⟨kvs, B, q1, q2, q3⟩ := h4 i d hi
  exact ⟨kvs, B, x _ _ (fun e => by rw [e, hD] at q1; cases q1) q1, q2.tk tk, q3⟩
def spInitE (K : PySem.W.Frag) (CC CL : Addr) : Sp := fun vs H Q E => ∃ (a dx rl ml : Addr) (r : Nat) (Hb : Hp) (rxs mxs : List V) (rus : List Rul) (mv : List Mv) (b0 : Bool), vs = [.ref a, .int r, .ref rl, .ref ml] ∧ H = upd (upd Hb dx (.own a)) a (.ins CC dx []) ∧ Hb a = none ∧ Hb dx = none ∧ dx ≠ a ∧ 1 ≤ r ∧ r ≤ 4 ∧
  SqL K Hb rl rxs ∧ Paired (Rt Hb) rxs rus ∧ rus.length ≤ 24 ∧ (∀ u ∈ rus, u.ok r) ∧ ((∀ u, u ∈ rus → ar u.c ≠ 0) → Out0 E Hb CL "NoLeaf") ∧ SqB K b0 Hb ml mxs ∧ Paired (Mt Hb) mxs mv ∧ MvOk r mv ∧ Joined r mv ∧ ∀ H', (∃ u, u ∈ rus ∧ ar u.c = 0) → Ex Hb H' → ChF CC Hb H' a r rus mv → Q .non H'
section
variable {P : Program} {w : World} {K : PySem.W.Frag} {mg : Str → Option Value} {base : Heap}
theorem ok_initE {CC CL CR CM CU : Addr} {kws : List (Str × V)} {f : Addr} {fd : FuncData} (F : FunD K "__init__" "Chooser.__init__" (defArgs s_Chooser___init__) (defBody s_Chooser___init__) (defScope s_Chooser___init__) [] kws f fd) (ck : ChK K mg CC) (mL : mg "len" = none) (mR : mg "range" = none) (mA : mg "all" = none) (mS : mg "sorted" = none) (mI : mg "list" = none)
    (xL : ExK0 P w K mg base "NoLeaf" CL (fs0 "NoLeaf")) (cRu : Cal P w K mg base (L2.CX P w) "check_rules" 4 2 (spCkRules K CR)) (cMo : Cal P w K mg base (L2.CX P w) "check_moves" 4 2 (spCkMoves K CM)) (cJo : Cal P w K mg base (L2.CX P w) "check_joined" 3 2 (spCkJoined CU)) (cW : Cal P w K mg base CX0 "first_ways" 1 2 (spWays K)) (cA : Cal P w K mg base CX0 "arity" 1 1 spArity) :
    FnOk P w K mg base (L2.CX P w) 5 f fd P_Chooser___init__ (spInitE K CC CL) := by
  refine fn_okRM F sc_Chooser___init__ (fun vs H Q E ⟨a, _, _, _, _, _, _, _, _, _, _, h, _⟩ => by rw [h]; rfl) fun X vs H Q E C hfn tk hcd hql ⟨a, dx, rl, ml, r, Hb, rxs, mxs, rus, mv, b0, hv, hH, na, ndx, dxa, r1, r4, hrl, hru, hr24, hok, hleaf, hml, hmv, hmo, hj, hq⟩ => ?_
  subst hv
  have eb : Ex Hb H := by rw [hH]; exact Xb.ex (Evl.Ex.new ndx) na .upd
  have ha : H a = some (.ins CC dx []) := by rw [hH]; exact upd_same
  have g1 := ck.c1
  have g2 := ck.c2
  have g3 := ck.c3
  have gC := ck.gl
  have n_self : Nm X "self" 0 := C.nm rfl (by decide +kernel)
  have n_rooms : Nm X "rooms" 1 := C.nm rfl (by decide +kernel)
  have n_rules : Nm X "rules" 2 := C.nm rfl (by decide +kernel)
  have n_moves : Nm X "moves" 3 := C.nm rfl (by decide +kernel)
  refine b_cons ?_
  kpc_turns
  refine if_d (fun _ => ?_) fun h => absurd (by omega) h
  kpc_turns
  refine ⟨_, rfl, if_nd (fun h => absurd (by omega) h) fun _ => ?_⟩
  have hrl2 : SqL X.K H rl rxs := by rw [C.frg]; exact ex_l eb hrl
  have hml2 : SqB X.K b0 H ml mxs := by rw [C.frg]; exact hml.ex eb
  have lrx : rxs.length ≤ 24 := by rw [paired_len hru]; exact hr24
  have lmx : mxs.length ≤ 12 := by rw [paired_len hmv]; exact hmo.len
  kpc_turns
  refine if_d (fun h => absurd h (by omega)) fun _ => ?_
  kpc_turns
  obtain ⟨yss, hys1, hys3⟩ := rules_paired hru hok eb
  refine ⟨r, rl, rxs, yss, rfl, by rw [← C.frg]; exact hrl2, by omega, hys1, fun _ H1 e1 => ?_, fun i ys hi hf _ => by rw [hys3 ys (List.mem_of_getElem? hi)] at hf; cases hf⟩
  have hml3 := hml2.ex e1
  kpc_turns
  refine c_lenB hml3 ?_
  kpc_turns
  refine if_d (fun h => absurd h (by omega)) fun _ => ?_
  kpc_turns
  have eb1 := eb.trans e1
  have hbad : badM r [] 0 (mv.map mvL) = none := badM_ok hmo.ok hmo.nd fun _ _ z => by cases z
  have hmm := moves_paired hmv
  refine ⟨r, ml, mxs, mv.map mvL, b0, rfl, by rw [← C.frg]; exact hml3, lmx, paired_imp (fun _ _ h => h.ex eb1) hmm, fun _ H2 e2 => ?_, fun i hi => by rw [hbad] at hi; cases hi⟩
  have ha2 := e2 _ _ (e1 _ _ ha)
  have eb2 := eb1.trans e2
  refine b_cons (s_fld ?_)
  refine e_lc (own := [("room", 4)]) C (by decide +kernel) (i_range1 (C.gl (by decide +kernel)) (by rw [C.mgl]; exact mR) ?_)
  kpc_turns
  refine ⟨by omega, by omega, _, _, _, _, walk_range 0 _, comp_mapH (j := 4) C (fun i y H => ∃ d, y = V.ref d ∧ ∃ kvs B, H d = some (.dK kvs) ∧ DW H kvs B ∧ Best (fun p => p ∈ fromW mv (startW i)) B) (fun i y H H' e ⟨d, h1, kvs, B, h2, h3, h4⟩ => ⟨d, h1, kvs, B, e _ _ h2, h3.tk (TK.ex e), h4⟩) (by omega) (fun _ _ => trivial) rfl (by decide +kernel) (fun _ => rfl) ?_, ?_⟩
  · intro i v H' hi e3 hv X1 C1
    have hv : v = .int (i : Nat) := by rw [hv, Int.zero_add]
    subst hv
    have n_moves : Nm X1 "moves" 3 := C1.nm rfl (by decide +kernel)
    have n_room : Nm X1 "room" 4 := C1.nm rfl (by decide +kernel)
    have w_room : Ns X1 "room" 4 := C1.ns rfl (by decide +kernel) (.inr (by decide +kernel))
    kpc_turns
    refine ⟨i, r, ml, mxs, mv, rfl, (SqB.or (b := b0) (by rw [← C.frg]; exact hml3.ex (e2.trans e3))), paired_imp (fun _ _ h => h.tk (TK.ex (eb2.trans e3))) hmv, by omega, r4, hmo.len, fun m hm => (hmo.ok m hm).2.1, fun d H4 kvs B nd e4 hd hD hB => ⟨e4, fun D ys hD4 nD _ => ⟨d, rfl, kvs, B, del_at hd (fun z => by rw [z, hD4] at hd; cases hd), hD.tk (fun b xs h => del_at h (fun z => by rw [z, hD4] at h; cases h)), hB⟩⟩⟩
  · intro wl ys H3 nwl e3 hwl ⟨hlen, hR⟩
    obtain ⟨ds, rfl, hds⟩ := refs_of ys hR
    rw [List.length_map] at hlen
    have eb3 := eb2.trans e3
    have ha3 := e3 _ _ ha2
    have hR3 : WaysAt H3 mv ds := fun i d hi => by
      obtain ⟨kvs, B, q1, q2, q3⟩ := hds i d hi
      exact ⟨kvs, B, ex_del _ _ q1, q2.tk (TK.ex ex_del), q3⟩
    kpc_turns
    refine ⟨a, CC, dx, [], rfl, ha3, by rw [C.frg]; exact ck.cl, by rw [C.frg]; exact ck.na _ (by decide), by show 0 < 1000; decide, ?_⟩
    obtain ⟨H4, hH4⟩ : ∃ H4, upd H3 a (.ins CC dx (putF "ways" (.ref wl) [])) = H4 := ⟨_, rfl⟩
    have k34 : KP H3 H4 := by rw [← hH4]; exact KP.ins ha3
    have eb4 : Ex Hb H4 := by rw [← hH4]; exact Xb.ex eb3 na .upd
    have ha4 : H4 a = some (.ins CC dx (putF "ways" (.ref wl) [])) := by rw [← hH4]; exact upd_same
    rw [hH4]
    have hwl4 := k34.l _ _ hwl
    have hR4 := hR3.kp k34
    kpc_turns
    refine e_fld (e_name n_self rfl ⟨a, CC, dx, _, .ref wl, rfl, ha4, by rw [C.frg]; exact ck.cl, by rw [C.frg]; exact ck.na _ (by decide), rfl, ?_⟩)
    refine a_nil ⟨r, wl, ds, fun _ _ => true, rfl, by omega, hwl4, by omega, fun i d hi => ?_, fun _ H5 e5 => ?_, fun i j _ _ h => by rcases h with h | h <;> cases h⟩
    · obtain ⟨kvs, B, q1, q2, q3⟩ := hR4 i d hi
      have hlt := (List.getElem?_eq_some_iff.mp hi).1
      exact ⟨kvs, q1, fun j hj2 => dw_isSome q2 q3 (hj i j (by omega) hj2)⟩
    have eb5 := eb4.trans e5
    have hrl5 : SqL X.K H5 rl rxs := by rw [C.frg]; exact ex_l eb5 hrl
    have hru5 : Paired (Rt H5) rxs rus := paired_imp (fun _ _ h => h.ex eb5) hru
    have hlr := paired_len hru
    kpc_turns
    refine e_lc (own := [("rule", 5)]) C (by decide +kernel) (i_list ?_)
    kpc_turns
    refine ⟨rl, rfl, ⟨_, hrl5⟩, _, _, _, _, walk_list rl rxs, comp_map (j := 5) C (leafB rus) (by omega) (fun H' e => ex_l e hrl5) rfl (by decide +kernel) (fun _ => rfl) ?_, ?_⟩
    · intro i v H' hi e6 hv X1 C1
      obtain ⟨u, hu, T, N, rfl, hT, hN⟩ := paired_get hru5 i v hv
      have hT' := e6 _ _ hT
      have n_rule : Nm X1 "rule" 5 := C1.nm rfl (by decide +kernel)
      have w_rule : Ns X1 "rule" 5 := C1.ns rfl (by decide +kernel) (.inr (by decide +kernel))
      kpc_turns
      refine ⟨u.c, rfl, ?_⟩
      kpc_turns
      exact ⟨Evl.Ex.refl _, by unfold leafB; rw [hu]; rfl⟩
    intro Dl ys6 H6 nDl e6 hDl hy6
    rw [hlr, leaf_map] at hy6
    refine c_all (bs := rus.map fun u => decide ((0 : Int) < ar u.c)) C.calm (SqL.of (by rw [hDl, hy6])) ?_
    by_cases hlf : ∀ u, u ∈ rus → ar u.c ≠ 0
    · have hnl : ((rus.map fun u => decide ((0 : Int) < ar u.c)).all id) = true := by
        rw [List.all_map]
        refine List.all_eq_true.mpr fun u hu => ?_
        have := hlf u hu
        exact decide_eq_true (by omega)
      rw [hnl]
      refine ⟨true, rfl, if_ct rfl (b_cons (s_raise0 C xL tk (by decide) fun d nd => ?_))⟩
      exact hleaf hlf d _ ((eb5.trans e6).trans (Evl.Ex.new nd)) upd_same
    obtain ⟨u0, hu0, hu00⟩ : ∃ u, u ∈ rus ∧ ar u.c = 0 := Classical.byContradiction fun z => hlf fun u hu h0 => z ⟨u, hu, h0⟩
    have hnl : ((rus.map fun u => decide ((0 : Int) < ar u.c)).all id) = false := by
      rw [List.all_eq_false]
      exact ⟨_, List.mem_map.mpr ⟨u0, hu0, rfl⟩, by rw [hu00]; decide⟩
    rw [hnl]
    refine ⟨false, rfl, if_cf rfl (b_nil ?_)⟩
    have ha6 := e6 _ _ (e5 _ _ ha4)
    have eb6 := eb5.trans e6
    have hwl6 := e6 _ _ (e5 _ _ hwl4)
    have hR6 := hR4.kp (KP.ex (e5.trans e6))
    refine b_cons (s_fld (e_name n_rooms rfl (e_name n_self rfl ⟨a, CC, dx, _, rfl, ha6, by rw [C.frg]; exact ck.cl, by rw [C.frg]; exact ck.na _ (by decide), by show 1 < 1000; decide, ?_⟩)))
    obtain ⟨H7, hH7⟩ : ∃ H7, upd H6 a (.ins CC dx (putF "many_rooms" (.int r) (putF "ways" (.ref wl) []))) = H7 := ⟨_, rfl⟩
    rw [hH7]
    have k67 : KP H6 H7 := by rw [← hH7]; exact KP.ins ha6
    have eb7 : Ex Hb H7 := by rw [← hH7]; exact Xb.ex eb6 na .upd
    have ha7 : H7 a = some (.ins CC dx (putF "many_rooms" (.int r) (putF "ways" (.ref wl) []))) := by rw [← hH7]; exact upd_same
    have hwl7 := k67.l _ _ hwl6
    have hR7 := hR6.kp k67
    have hrl7 : SqL X.K H7 rl rxs := by rw [C.frg]; exact ex_l eb7 hrl
    refine b_cons (s_fld ?_)
    kpc_turns
    refine c_listL hrl7 fun rr H8 nrr e8 hrr => ?_
    have ha8 := e8 _ _ ha7
    kpc_turns
    refine ⟨a, CC, dx, _, rfl, ha8, by rw [C.frg]; exact ck.cl, by rw [C.frg]; exact ck.na _ (by decide), by show 2 < 1000; decide, ?_⟩
    obtain ⟨H9, hH9⟩ : ∃ H9, upd H8 a (.ins CC dx (putF "rule_row" (.ref rr) (putF "many_rooms" (.int r) (putF "ways" (.ref wl) [])))) = H9 := ⟨_, rfl⟩
    rw [hH9]
    have k89 : KP H8 H9 := by rw [← hH9]; exact KP.ins ha8
    have eb9 : Ex Hb H9 := by rw [← hH9]; exact Xb.ex (eb7.trans e8) na .upd
    have ha9 : H9 a = some (.ins CC dx (putF "rule_row" (.ref rr) (putF "many_rooms" (.int r) (putF "ways" (.ref wl) [])))) := by rw [← hH9]; exact upd_same
    have hwl9 := k89.l _ _ (e8 _ _ hwl7)
    have hR9 := (hR7.kp (KP.ex e8)).kp k89
    have hrr9 := k89.l _ _ hrr
    have hml9 : SqB X.K b0 H9 ml mxs := by rw [C.frg]; exact hml.ex eb9
    refine b_cons (s_fld ?_)
    kpc_turns
    refine c_listB hml9 fun mr H10 nmr e10 hmr => ?_
    have ha10 := e10 _ _ ha9
    kpc_turns
    refine ⟨a, CC, dx, _, rfl, ha10, by rw [C.frg]; exact ck.cl, by rw [C.frg]; exact ck.na _ (by decide), by show 3 < 1000; decide, ?_⟩
    obtain ⟨H11, hH11⟩ : ∃ H11, upd H10 a (.ins CC dx (putF "move_row" (.ref mr) (putF "rule_row" (.ref rr) (putF "many_rooms" (.int r) (putF "ways" (.ref wl) []))))) = H11 := ⟨_, rfl⟩
    rw [hH11]
    have k1011 : KP H10 H11 := by rw [← hH11]; exact KP.ins ha10
    have eb11 : Ex Hb H11 := by rw [← hH11]; exact Xb.ex (eb9.trans e10) na .upd
    have ha11 : H11 a = some (.ins CC dx (putF "move_row" (.ref mr) (putF "rule_row" (.ref rr) (putF "many_rooms" (.int r) (putF "ways" (.ref wl) []))))) := by rw [← hH11]; exact upd_same
    have hwl11 := k1011.l _ _ (e10 _ _ hwl9)
    have hR11 := (hR9.kp (KP.ex e10)).kp k1011
    have hrr11 := k1011.l _ _ (e10 _ _ hrr9)
    have hmr11 := k1011.l _ _ hmr
    have hrl11 : SqL X.K H11 rl rxs := by rw [C.frg]; exact ex_l eb11 hrl
    have hru11 : Paired (Rt H11) rxs rus := paired_imp (fun _ _ h => h.ex eb11) hru
    refine b_cons (s_fld ?_)
    kpc_turns
    refine e_scS (own := [("rule", 5)]) (j := 5) C (by decide +kernel) rfl (by decide +kernel) (fun _ => rfl) (i_list ?_)
    kpc_turns
    refine ⟨rl, rfl, ⟨_, hrl11⟩, _, _, _, fun i => oneS ((rus[i]?.map Rul.c).getD 0), walk_list rl rxs, by omega, fun H' e => ex_l e hrl11, ?_, ?_⟩
    · intro i v H' hi e12 hv X1 C1
      obtain ⟨u, hu, T, N, rfl, hT, hN⟩ := paired_get hru11 i v hv
      have hT' := e12 _ _ hT
      have n_rule : Nm X1 "rule" 5 := C1.nm rfl (by decide +kernel)
      have w_rule : Ns X1 "rule" 5 := C1.ns rfl (by decide +kernel) (.inr (by decide +kernel))
      kpc_turns
      refine ⟨Evl.Ex.refl _, by show _ = V.str (oneS ((rus[i]?.map Rul.c).getD 0)); rw [hu]; rfl⟩
    intro Ds H12 nDs e12 hDs
    have hIl := insAll_len (fun i => oneS ((rus[i]?.map Rul.c).getD 0)) rxs.length
    refine c_sortedSS C hDs (by omega) fun pl H13 ss npl e13 hpl hperm hsort => ?_
    obtain ⟨cs, rfl, hcs⟩ := let_of hsort (hperm.nodup_iff.mpr (insAll_nd _ _)) fun z hz => by
      obtain ⟨i, _, e⟩ := (insAll_mem _ _ _).mp (hperm.mem_iff.mp hz)
      exact ⟨_, e⟩
    have lcs := hperm.length_eq
    rw [List.length_map] at lcs
    refine ⟨pl, _, rfl, SqL.of hpl, ?_, ?_⟩
    · have e1 : ((cs.map oneS).map (·.length)).sum ≤ cs.length := by
        clear hcs lcs hperm hsort hpl
        induction cs with
        | nil => exact Nat.zero_le _
        | cons c r ih =>
          rw [List.map_cons, List.map_cons, List.sum_cons, List.length_cons]
          have : (oneS c).length = 1 := rfl
          omega
      have e2 : (Str.ofString "").length = 0 := by decide +kernel
      rw [e2]
      omega
    kpc_turns
    have ha13 := e13 _ _ (e12 _ _ ha11)
    refine ⟨a, CC, dx, _, rfl, ha13, by rw [C.frg]; exact ck.cl, by rw [C.frg]; exact ck.na _ (by decide), by show 4 < 1000; decide, ?_⟩
    have k13 := (KP.ex (e12.trans e13)).trans (KP.ins (o := .ins CC dx (chF wl r rr mr (PySem.Str.join (Str.ofString "") (cs.map oneS)))) ha13)
    have eb13 : Ex Hb (upd H13 a (.ins CC dx (chF wl r rr mr (PySem.Str.join (Str.ofString "") (cs.map oneS))))) := Xb.ex (eb11.trans (e12.trans e13)) na .upd
    refine b_nil (hq _ ⟨u0, hu0, hu00⟩ eb13 ⟨wl, rr, mr, ex_n eb2 nwl, ex_n eb7 nrr, ex_n eb9 nmr, dx, _, ds, rxs, mxs, upd_same, k13.l _ _ hwl11, hlen, hR11.kp k13, k13.l _ _ hrr11, paired_imp (fun _ _ h => h.ex eb13) hru, k13.l _ _ hmr11, paired_imp (fun _ _ h => h.tk (TK.ex eb13)) hmv, ?_⟩)
    refine ⟨by rw [join_nil]; exact hcs, fun c => ?_⟩
    rw [join_nil]
    have hm : c ∈ cs ↔ oneS c ∈ cs.map oneS := ⟨fun h => List.mem_map.mpr ⟨c, h, rfl⟩, fun h => by
      obtain ⟨d, hd, e⟩ := List.mem_map.mp h
      have : d = c := by have := congrArg Str.cps e; simpa [oneS] using this
      rw [← this]; exact hd⟩
    rw [hm, hperm.mem_iff, insAll_mem]
    constructor
    · rintro ⟨i, hi, e⟩
      have hi2 : i < rus.length := by omega
      have e : c = (rus[i]?.map Rul.c).getD 0 := by have := congrArg Str.cps e; simpa [oneS] using this
      rw [List.getElem?_eq_getElem hi2] at e
      exact ⟨rus[i], List.getElem_mem hi2, e.symm⟩
    · rintro ⟨u, hu, rfl⟩
      obtain ⟨i, hi, e⟩ := List.getElem_of_mem hu
      exact ⟨i, by omega, by rw [List.getElem?_eq_getElem hi, e]; rfl⟩
end

/-! data: lists of one kind, told apart -/
theorem eqv_nn (x y : Nat) : PyData.eqv (.int x) (.int y) = decide (x = y) := by
  show ((x : Int) == (y : Int)) = _
  by_cases h : x = y
  · subst h; simp
  · rw [decide_eq_false h]; exact beq_eq_false_iff_ne.mpr fun z => h (by omega)
theorem oneS_inj {c d : Nat} (h : oneS c = oneS d) : c = d := by have := congrArg Str.cps h; simpa [oneS] using this
theorem eqv_one (c d : Nat) : PyData.eqv (.str (oneS c)) (.str (oneS d)) = decide (c = d) := by
  show (oneS c == oneS d) = _
  by_cases h : c = d
  · subst h; simp
  · rw [decide_eq_false h]; exact beq_eq_false_iff_ne.mpr fun z => h (oneS_inj z)
theorem eqv_map {α : Type} [DecidableEq α] {f : α → PyData} (h : ∀ x y, PyData.eqv (f x) (f y) = decide (x = y)) : ∀ xs ys : List α, PyData.eqvAll (xs.map f) (ys.map f) = decide (xs = ys)
  | [], [] => rfl
  | [], _ :: _ => rfl
  | _ :: _, [] => rfl
  | x :: xs, y :: ys => by
    show (PyData.eqv (f x) (f y) && PyData.eqvAll (xs.map f) (ys.map f)) = _
    rw [h, eqv_map h xs ys, ← Bool.decide_and]
    exact dec_cg (by simp)
theorem lay_all {α : Type} {f : α → PyData} {n : Nat} : ∀ xs : List α, (∀ x ∈ xs, PyData.canLay0 (f x) = true ∧ PyData.depth (f x) ≤ n) → PyData.canLayAll0 (xs.map f) = true ∧ PyData.depthAll (xs.map f) ≤ n
  | [], _ => ⟨rfl, Nat.zero_le _⟩
  | x :: xs, h => by
    obtain ⟨h1, h2⟩ := h x (List.mem_cons_self ..)
    obtain ⟨h3, h4⟩ := lay_all xs fun y hy => h y (List.mem_cons_of_mem _ hy)
    refine ⟨?_, ?_⟩
    · show (PyData.canLay0 (f x) && PyData.canLayAll0 (xs.map f)) = true
      rw [h1, h3]; rfl
    · show max (PyData.depth (f x)) (PyData.depthAll (xs.map f)) ≤ n
      omega
theorem sh_lst {α : Type} {f : α → PyData} {n : Nat} {xs : List α} (hn : n ≤ 60) (h : ∀ x ∈ xs, PyData.canLay0 (f x) = true ∧ PyData.depth (f x) ≤ n) : SeqAt.shaped (.list (xs.map f)) = true := by
  obtain ⟨h1, h2⟩ := lay_all xs h
  show (PyData.canLayAll0 _ && decide (PyData.depthAll _ + 1 ≤ 64)) = true
  rw [h1, decide_eq_true (by omega)]; rfl
theorem ints_lay (ns : List Nat) : PyData.canLayAll0 ((ns.map fun (n : Nat) => (n : Int)).map PyData.int) = true ∧ PyData.depthAll ((ns.map fun (n : Nat) => (n : Int)).map PyData.int) ≤ 0 := lay_all _ fun _ _ => ⟨rfl, Nat.le_refl _⟩
theorem letter_lt {c : Nat} (h : c ∈ tl zLetters) : c < 1114112 := (by decide +kernel : ∀ c ∈ tl zLetters, c < 1114112) c h
section
variable {K : PySem.W.Frag} {H : Hp}
theorem dp_nats (ns : List Nat) : DpAll K H (ns.map nV) ((ns.map fun (n : Nat) => (n : Int)).map PyData.int) := by
  have := dp_ints (K := K) (H := H) (zs := ns.map fun (n : Nat) => (n : Int))
  rw [List.map_map] at this
  exact this
theorem dp_paired {α : Type} {R : V → α → Prop} {f : α → PyData} (h : ∀ v x, R v x → Dp K H v (f x)) : ∀ {vs : List V} {xs : List α}, Paired R vs xs → DpAll K H vs (xs.map f)
  | _, _, .nil => .nil
  | _, _, .cons a t => .cons (h _ _ a) (dp_paired h t)
end
theorem paired_take {α β : Type} {F : α → β → Prop} : ∀ {xs : List α} {ys : List β}, Paired F xs ys → ∀ n, Paired F (xs.take n) (ys.take n)
  | _, _, .nil, n => by rw [List.take_nil, List.take_nil]; exact .nil
  | _, _, .cons h t, 0 => .nil
  | _, _, .cons h t, n + 1 => .cons h (paired_take t n)
theorem paired_drop {α β : Type} {F : α → β → Prop} : ∀ {xs : List α} {ys : List β}, Paired F xs ys → ∀ n, Paired F (xs.drop n) (ys.drop n)
  | _, _, .nil, n => by rw [List.drop_nil, List.drop_nil]; exact .nil
  | _, _, .cons h t, 0 => .cons h t
  | _, _, .cons h t, n + 1 => paired_drop t n

/-! rules and moves as data -/
def rulD (u : Rul) : PyData := .tuple [.str (oneS u.c), .tuple ((u.needs.map fun (n : Nat) => (n : Int)).map PyData.int), .int u.room, .int u.price]
def mvD (m : Mv) : PyData := .tuple [.int m.1, .int m.2.1, .int m.2.2]
theorem eqv_rul (u v : Rul) : PyData.eqv (rulD u) (rulD v) = decide (u = v) := by
  show (PyData.eqv (.str (oneS u.c)) (.str (oneS v.c)) && (PyData.eqvAll _ _ && (PyData.eqv (.int u.room) (.int v.room) && (PyData.eqv (.int u.price) (.int v.price) && true)))) = _
  rw [eqv_one, eqv_ints, eqv_nn, eqv_nn, Bool.and_true, ← Bool.decide_and, ← Bool.decide_and, ← Bool.decide_and]
  refine dec_cg ?_
  rw [map_cast_inj]
  obtain ⟨a, b, c, d⟩ := u
  obtain ⟨a', b', c', d'⟩ := v
  simp
theorem eqv_mv (m n : Mv) : PyData.eqv (mvD m) (mvD n) = decide (m = n) := by
  show (PyData.eqv (.int m.1) (.int n.1) && (PyData.eqv (.int m.2.1) (.int n.2.1) && (PyData.eqv (.int m.2.2) (.int n.2.2) && true))) = _
  rw [eqv_nn, eqv_nn, eqv_nn, Bool.and_true, ← Bool.decide_and, ← Bool.decide_and]
  refine dec_cg ?_
  obtain ⟨a, b, c⟩ := m
  obtain ⟨a', b', c'⟩ := n
  simp
theorem rul_lay {u : Rul} (h : u.c < 1114112) : PyData.canLay0 (rulD u) = true ∧ PyData.depth (rulD u) ≤ 2 := by
  obtain ⟨h1, h2⟩ := ints_lay u.needs
  refine ⟨?_, ?_⟩
  · show (PyData.strOk (oneS u.c) && (PyData.canLayAll0 _ && true)) = true
    rw [h1, Bool.and_true, Bool.and_true]
    simp [PyData.strOk, oneS, h]
  · show max 0 (max (PyData.depthAll _ + 1) (max 0 (max 0 0))) + 1 ≤ 2
    omega
theorem mv_lay (m : Mv) : PyData.canLay0 (mvD m) = true ∧ PyData.depth (mvD m) ≤ 2 := ⟨rfl, by show max 0 (max 0 (max 0 0)) + 1 ≤ 2; decide⟩
section
variable {K : PySem.W.Frag} {H : Hp}
theorem Rt.dp {v : V} {u : Rul} (h : Rt H v u) : Dp K H v (rulD u) := by
  obtain ⟨T, N, rfl, h2, h3⟩ := h
  exact .tup (SqT.of h2) (.cons (.str _) (.cons (.tup (SqT.of h3) (dp_nats _)) (.cons (.int _) (.cons (.int _) .nil))))
theorem Mt.dp {v : V} {m : Mv} (h : Mt H v m) : Dp K H v (mvD m) := by
  obtain ⟨T, rfl, h2⟩ := h
  exact .tup (SqT.of h2) (.cons (.int _) (.cons (.int _) (.cons (.int _) .nil)))
end
theorem sh_ruls {us : List Rul} (h : ∀ u ∈ us, u.c ∈ tl zLetters) : SeqAt.shaped (.list (us.map rulD)) = true := sh_lst (n := 2) (by decide) fun u hu => rul_lay (letter_lt (h u hu))
theorem sh_mvs (ms : List Mv) : SeqAt.shaped (.list (ms.map mvD)) = true := sh_lst (n := 2) (by decide) fun m _ => mv_lay m
theorem eqv_ruls (us vs : List Rul) : PyData.eqv (.list (us.map rulD)) (.list (vs.map rulD)) = decide (us = vs) := eqv_map eqv_rul us vs
theorem eqv_mvs (us vs : List Mv) : PyData.eqv (.list (us.map mvD)) (.list (vs.map mvD)) = decide (us = vs) := eqv_map eqv_mv us vs
theorem paired_set {α β : Type} {F : α → β → Prop} {x : α} {y : β} (hx : F x y) : ∀ {xs : List α} {ys : List β}, Paired F xs ys → ∀ n, Paired F (xs.set n x) (ys.set n y)
  | _, _, .nil, n => .nil
  | _, _, .cons h t, 0 => .cons hx t
  | _, _, .cons h t, n + 1 => .cons h (paired_set hx t n)
/-- a proper part of a tuple is new -/
theorem t_slM {X : Cx} {H : Hp} {Q : VK} {a : Addr} {xs : List V} {lo hi : Option Int} (hl : SqT X.K H a xs) (hn : ¬ (HT.sIx xs.length 0 lo = 0 ∧ HT.sIx xs.length xs.length hi = xs.length)) (h : ∀ p H', H p = none → Ex H H' → H' p = some (.tup (cutV xs lo hi)) → Q (.ref p) H') : zSl X (.ref a) lo hi H Q :=
  zSl_of sl_tupA ⟨a, xs, rfl, hl, fun z => absurd z hn, fun _ p np => h p _ np (Evl.Ex.new np) upd_same⟩

/-! moves of a ring, and more -/
def RingIn (r : Nat) (mv : List Mv) : Prop := 1 < r → ∀ k, k < r → ∃ c, (k, (k + 1) % r, c) ∈ mv
structure MvR (r : Nat) (mv : List Mv) : Prop where
  ok : ∀ m ∈ mv, m.1 < r ∧ m.2.1 < r ∧ m.1 ≠ m.2.1 ∧ m.2.2 ≤ 99
  nd : (mv.map fun m => (m.1, m.2.1)).Nodup
  ring : RingIn r mv
theorem ring_of {H : Hp} {r : Nat} : ∀ (ys : List V) (k : Nat), (∀ t y, ys[t]? = some y → ∃ c, c ≤ 99 ∧ Mt H y (k + t, (k + t + 1) % r, c)) → ∃ mv : List Mv, Paired (Mt H) ys mv ∧ mv.length = ys.length ∧ ∀ t m, mv[t]? = some m → m.1 = k + t ∧ m.2.1 = (k + t + 1) % r ∧ m.2.2 ≤ 99
  | [], k, _ => ⟨[], .nil, rfl, fun _ _ h => by cases h⟩
  | y :: ys, k, h => by
    obtain ⟨c, h1, h2⟩ := h 0 y rfl
    obtain ⟨mv, h3, h4, h5⟩ := ring_of ys (k + 1) fun t z hz => by
      have := h (t + 1) z (by simpa using hz)
      rw [show k + (t + 1) = k + 1 + t by omega] at this
      exact this
    refine ⟨(k, (k + 1) % r, c) :: mv, .cons h2 h3, by rw [List.length_cons, List.length_cons, h4], fun t m hm => ?_⟩
    cases t with
    | zero => cases hm; exact ⟨rfl, rfl, h1⟩
    | succ t =>
      have := h5 t m (by simpa using hm)
      rw [show k + 1 + t = k + (t + 1) by omega] at this
      exact this
theorem mvR_ring {r : Nat} {mv : List Mv} (hl : mv.length = if 1 < r then r else 0) (h : ∀ t m, mv[t]? = some m → m.1 = t ∧ m.2.1 = (t + 1) % r ∧ m.2.2 ≤ 99) : MvR r mv := by
  have hget : ∀ t (ht : t < mv.length), mv[t].1 = t ∧ mv[t].2.1 = (t + 1) % r ∧ mv[t].2.2 ≤ 99 := fun t ht => h t _ (List.getElem?_eq_getElem ht)
  refine ⟨fun m hm => ?_, ?_, fun hr k hk => ?_⟩
  · obtain ⟨t, ht, rfl⟩ := List.getElem_of_mem hm
    obtain ⟨h1, h2, h3⟩ := hget t ht
    by_cases hr : 1 < r
    · rw [if_pos hr] at hl
      rw [h1, h2]
      refine ⟨by omega, Nat.mod_lt _ (by omega), fun z => ?_, h3⟩
      by_cases e : t + 1 = r
      · rw [e, Nat.mod_self] at z; omega
      · rw [Nat.mod_eq_of_lt (by omega)] at z; omega
    · rw [if_neg hr] at hl; omega
  · refine List.pairwise_map.mpr (List.pairwise_iff_getElem.mpr fun i j hi hj hij z => ?_)
    have h1 := (hget i hi).1
    have h2 := (hget j hj).1
    have := congrArg Prod.fst z
    simp only at this
    omega
  · rw [if_pos hr] at hl
    have := hget k (by omega)
    exact ⟨mv[k].2.2, by
      have e : (k, (k + 1) % r, mv[k].2.2) = mv[k] := Prod.ext this.1.symm (Prod.ext this.2.1.symm rfl)
      rw [e]
      exact List.getElem_mem _⟩
theorem MvR.add {r : Nat} {mv : List Mv} (h : MvR r mv) {m : Mv} (h1 : m.1 < r ∧ m.2.1 < r ∧ m.1 ≠ m.2.1 ∧ m.2.2 ≤ 99) (h2 : (m.1, m.2.1) ∉ mv.map fun m => (m.1, m.2.1)) : MvR r (mv ++ [m]) := by
  refine ⟨fun q hq => ?_, ?_, fun hr k hk => ?_⟩
  · rcases List.mem_append.mp hq with hq | hq
    · exact h.ok q hq
    · rw [List.mem_singleton.mp hq]; exact h1
  · rw [List.map_append, List.nodup_append]
    refine ⟨h.nd, by simp, fun a ha b hb e => h2 ?_⟩
    rw [List.map_cons, List.map_nil] at hb
    rw [List.mem_singleton.mp hb] at e
    rw [← e]
    exact ha
  · obtain ⟨c, hc⟩ := h.ring hr k hk
    exact ⟨c, List.mem_append_left _ hc⟩
theorem pairs_len {r : Nat} (hr : r ≤ 4) {mv : List Mv} (h : ∀ m ∈ mv, m.1 < r ∧ m.2.1 < r ∧ m.1 ≠ m.2.1 ∧ m.2.2 ≤ 99) (nd : (mv.map fun m => (m.1, m.2.1)).Nodup) : mv.length ≤ 12 := by
  have e : (mv.map fun m => m.1 * 3 + (if m.1 < m.2.1 then m.2.1 - 1 else m.2.1)).Nodup := by
    refine List.pairwise_map.mpr ((List.pairwise_map.mp nd).imp_of_mem fun {a b} ha hb hab z => hab ?_)
    have h1 := h a ha
    have h2 := h b hb
    refine Prod.ext ?_ ?_
    · show a.1 = b.1
      split at z <;> split at z <;> omega
    · show a.2.1 = b.2.1
      split at z <;> split at z <;> omega
  have := pigeon 12 _ e fun x hx => by
    obtain ⟨m, hm, rfl⟩ := List.mem_map.mp hx
    have h1 := h m hm
    show m.1 * 3 + (if m.1 < m.2.1 then m.2.1 - 1 else m.2.1) < 12
    split <;> omega
  rw [List.length_map] at this
  exact this
theorem MvR.len {r : Nat} {mv : List Mv} (h : MvR r mv) (hr : r ≤ 4) : mv.length ≤ 16 := Nat.le_trans (pairs_len hr h.ok h.nd) (by decide)
theorem MvR.mvOk {r : Nat} {mv : List Mv} (h : MvR r mv) (hr : r ≤ 4) : MvOk r mv := ⟨pairs_len hr h.ok h.nd, h.ok, h.nd⟩
theorem goalW_app (l : List Nat) (b : Nat) : goalW (l ++ [b]) = b := by
  unfold goalW
  rw [List.getLast?_append]
  rfl

/-! a ring joins its rooms -/
theorem allW_self (mv : List Mv) : ∀ (n : Nat) (p : Way), p ∈ allW mv n p
  | 0, _ => List.mem_singleton.mpr rfl
  | _ + 1, _ => List.mem_cons_self ..
theorem allW_on {mv : List Mv} {m : Mv} (hm : m ∈ mv) : ∀ (n : Nat) (p q : Way), q ∈ allW mv n p → goP q m = true → q.2.2.length < p.2.2.length + n → onW q m ∈ allW mv n p
  | 0, p, q, h, _, hl => by rw [List.mem_singleton.mp h] at hl; omega
  | n + 1, p, q, h, hg, hl => by
    rcases List.mem_cons.mp h with e | h
    · rw [e] at hg ⊢
      exact List.mem_cons_of_mem _ (List.mem_flatMap.mpr ⟨onW p m, List.mem_map.mpr ⟨m, List.mem_filter.mpr ⟨hm, hg⟩, rfl⟩, allW_self mv n _⟩)
    · obtain ⟨y, hy, hq⟩ := List.mem_flatMap.mp h
      obtain ⟨m', hm', rfl⟩ := List.mem_map.mp hy
      refine List.mem_cons_of_mem _ (List.mem_flatMap.mpr ⟨onW p m', hy, allW_on hm n _ q hq hg ?_⟩)
      show _ < (p.2.2 ++ [m'.2.1]).length + n
      rw [List.length_append, List.length_singleton]
      omega
def ringP (r i d : Nat) : List Nat := (List.range (d + 1)).map fun t => (i + t) % r
theorem ringP_succ (r i d : Nat) : ringP r i (d + 1) = ringP r i d ++ [(i + (d + 1)) % r] := by
  unfold ringP
  rw [List.range_succ, List.map_append]
  rfl
theorem ringP_goal (r i d : Nat) : goalW (ringP r i d) = (i + d) % r := by
  cases d with
  | zero => rfl
  | succ d => rw [ringP_succ, goalW_app]
theorem mod_ne {r i d t : Nat} (hr : r ≤ 4) (hd : d < r) (ht : t < d) (hi : i < r) : (i + t) % r ≠ (i + d) % r := by
  obtain rfl | rfl | rfl | rfl : r = 1 ∨ r = 2 ∨ r = 3 ∨ r = 4 := by omega
  all_goals omega
theorem ring_way {r : Nat} {mv : List Mv} (hr : r ≤ 4) (h : RingIn r mv) {i : Nat} (hi : i < r) : ∀ d, d < r → ∃ q, q ∈ allW mv 3 (startW i) ∧ q.2.2 = ringP r i d
  | 0, _ => ⟨startW i, allW_self mv 3 _, by show [i] = [(i + 0) % r]; rw [Nat.add_zero, Nat.mod_eq_of_lt hi]⟩
  | d + 1, hd => by
    obtain ⟨q, h1, h2⟩ := ring_way hr h hi d (by omega)
    obtain ⟨c, hc⟩ := h (by omega) ((i + d) % r) (Nat.mod_lt _ (by omega))
    have e : ((i + d) % r + 1) % r = (i + (d + 1)) % r := by rw [Nat.mod_add_mod, Nat.add_assoc]
    rw [e] at hc
    refine ⟨_, allW_on hc 3 _ q h1 ?_ ?_, ?_⟩
    · unfold goP
      rw [h2, ringP_goal]
      have hn : (i + (d + 1)) % r ∉ ringP r i d := fun z => by
        obtain ⟨t, ht, e2⟩ := List.mem_map.mp z
        have ht := List.mem_range.mp ht
        exact mod_ne hr hd ht hi e2
      rw [decide_eq_true rfl, decide_eq_false hn]
      rfl
    · rw [h2]
      unfold ringP
      rw [List.length_map, List.length_range]
      show d + 1 < 1 + 3
      omega
    · show q.2.2 ++ [_] = _
      rw [h2, ringP_succ]
theorem MvR.joined {r : Nat} {mv : List Mv} (h : MvR r mv) (hr : r ≤ 4) : Joined r mv := fun i j hi hj => by
  obtain ⟨q, h1, h2⟩ := ring_way hr h.ring hi ((j + r - i) % r) (Nat.mod_lt _ (by omega))
  refine ⟨q, h1, ?_⟩
  rw [h2, ringP_goal]
  obtain rfl | rfl | rfl | rfl : r = 1 ∨ r = 2 ∨ r = 3 ∨ r = 4 := by omega
  all_goals omega

/-! a drawn rule -/
abbrev s_law_rule : Stmt := topS 80
abbrev N_law_rule : List Str := ["_law_feed_here", "_law_letter", "_law_rooms", "_law_most", "_law_needs", "_law_k"]
abbrev P_law_rule : List Str := ["_law_feed_here", "_law_letter", "_law_rooms", "_law_most"]
theorem sc_law_rule : FnScope N_law_rule P_law_rule (defScope s_law_rule) := ⟨rfl, rfl, rfl, by decide +kernel, rfl, by decide +kernel, by decide +kernel⟩

def spRule : Sp := fun vs H Q _ => ∃ (a : Addr) (c r m : Nat), vs = [.ref a, .str (oneS c), .int r, .int m] ∧ Feed H a ∧ c ∈ tl zLetters ∧ 1 ≤ r ∧ r ≤ 4 ∧ 1 ≤ m ∧ m ≤ 99 ∧ ∀ v u H', Ex H H' → Rt H' v u → u.c = c → u.ok r → u.price ≤ m → Q v H'
theorem nats_of : ∀ (ys : List V) {r : Nat}, (∀ (t : Nat) (y : V), ys[t]? = some y → ∃ n : Nat, y = nV n ∧ n < r) → ∃ ns : List Nat, ys = ns.map nV ∧ ∀ n ∈ ns, n < r
  | [], r, _ => ⟨[], rfl, fun _ h => by cases h⟩
  | y :: ys, r, h => by
    obtain ⟨n, e, hn⟩ := h 0 y rfl
    obtain ⟨ns, e2, h2⟩ := nats_of ys (r := r) fun t z hz => h (t + 1) z (by simpa using hz)
    exact ⟨n :: ns, by rw [e, e2]; rfl, fun x hx => by
      rcases List.mem_cons.mp hx with rfl | hx
      · exact hn
      · exact h2 x hx⟩
theorem ar_le (c : Nat) : ar c ≤ 2 := by
  unfold ar
  split
  · omega
  · split <;> omega
section
variable {P : Program} {w : World} {K : PySem.W.Frag} {mg : Str → Option Value} {base : Heap}
theorem ok_law_rule {f : Addr} {fd : FuncData} (F : FnP K "_law_rule" s_law_rule f fd) (mR : mg "range" = none) (mT : mg "tuple" = none) (cD : Cal P w K mg base CX0 "_law_draw" 1 2 spDraw) (cA : Cal P w K mg base CX0 "_law_arity" 1 1 spArity) : FnOk P w K mg base CX0 2 f fd P_law_rule spRule := by
  refine fn_ok F sc_law_rule (fun vs H Q E ⟨a, _, _, _, h, _⟩ => by rw [h]; rfl) fun X vs H Q E C hfn ⟨a, c, r, m, hv, hF, hc, r1, r4, m1, m99, hq⟩ => ?_
  subst hv
  have n_feed_here : Nm X "_law_feed_here" 0 := C.nm rfl (by decide +kernel)
  have n_letter : Nm X "_law_letter" 1 := C.nm rfl (by decide +kernel)
  have n_rooms : Nm X "_law_rooms" 2 := C.nm rfl (by decide +kernel)
  have n_most : Nm X "_law_most" 3 := C.nm rfl (by decide +kernel)
  have n_needs : Nm X "_law_needs" 4 := C.nm rfl (by decide +kernel)
  have w_needs : Ns X "_law_needs" 4 := C.ns rfl (by decide +kernel) (.inl (hfn _))
  refine b_cons ?_
  kpc_turns
  refine e_lc (own := [("_law_k", 5)]) C (by decide +kernel) (i_range1 (C.gl (by decide +kernel)) (by rw [C.mgl]; exact mR) ?_)
  kpc_turns
  refine ⟨c, rfl, ?_⟩
  have hal := ar_le c
  refine ⟨_, rfl, by omega, by omega, _, _, _, _, walk_range 0 _, comp_mapH (j := 5) C (fun i y H => ∃ n : Nat, y = nV n ∧ n < r) (fun _ _ _ _ _ h => h) (by omega) (fun _ _ => trivial) rfl (by decide +kernel) (fun _ => rfl) ?_, ?_⟩
  · intro i v H' hi e3 hv X1 C1
    have n_feed_here : Nm X1 "_law_feed_here" 0 := C1.nm rfl (by decide +kernel)
    have n_rooms : Nm X1 "_law_rooms" 2 := C1.nm rfl (by decide +kernel)
    have n_k : Nm X1 "_law_k" 5 := C1.nm rfl (by decide +kernel)
    have w_k : Ns X1 "_law_k" 5 := C1.ns rfl (by decide +kernel) (.inr (by decide +kernel))
    kpc_turns
    refine draw_n (hF.mono e3) (by omega) (by omega) fun d hd0 hd1 => ?_
    exact ⟨Evl.Ex.refl _, fun D ys hD nD _ => ⟨d.toNat, by show V.int d = V.int ((d.toNat : Nat) : Int); rw [show ((d.toNat : Nat) : Int) = d by omega], by omega⟩⟩
  · intro D ys H1 nD e1 hD ⟨hlen, hR⟩
    obtain ⟨ns, rfl, hns⟩ := nats_of ys hR
    refine c_tupL (SqL.of hD) fun p H2 np e2 hp => ?_
    kpc_turns
    refine n_tup ?_
    kpc_turns
    refine draw_n ((hF.mono e1).mono e2) (by omega) (by omega) fun d hd0 hd1 => ?_
    kpc_turns
    refine draw_n ((hF.mono e1).mono e2) (by omega) (by omega) fun q hq0 hq1 => ?_
    kpc_turns
    refine ⟨by show 4 ≤ sizeLine; decide, fun p3 H3 n3 e3 hp3 => ?_⟩
    rw [show d = ((d.toNat : Nat) : Int) by omega, show (1 : Int) + q = (((1 + q).toNat : Nat) : Int) by omega] at hp3
    refine hq _ ⟨c, ns, d.toNat, (1 + q).toNat⟩ H3 ((e1.trans e2).trans e3) ⟨p3, p, rfl, hp3, e3 _ _ hp⟩ rfl ⟨hc, ?_, hns, by show d.toNat < r; omega, by show 1 ≤ (1 + q).toNat; omega, by show (1 + q).toNat ≤ 99; omega⟩ (by show (1 + q).toNat ≤ m; omega)
    rw [List.length_map] at hlen
    show ns.length = ar c
    omega
end

/-! drawn rules and moves -/
abbrev s_law_spec : Stmt := topS 81
abbrev N_law_spec : List Str := ["_law_feed_here", "_law_letters_here", "_law_rooms", "_law_most", "_law_rules", "_law_steps", "_law_letter", "_law_k", "_law_turn", "_law_room"]
abbrev P_law_spec : List Str := ["_law_feed_here", "_law_letters_here", "_law_rooms", "_law_most"]
theorem sc_law_spec : FnScope N_law_spec P_law_spec (defScope s_law_spec) := ⟨rfl, rfl, rfl, by decide +kernel, rfl, by decide +kernel, by decide +kernel⟩

structure SpecOk (z : Str) (r m : Nat) (rus : List Rul) (mv : List Mv) : Prop where
  ok : ∀ u ∈ rus, u.ok r ∧ u.price ≤ m
  let_ : ∀ c, c ∈ tl z ↔ ∃ u, u ∈ rus ∧ u.c = c
  len : rus.length ≤ 12
  mvR : MvR r mv
  mvm : ∀ q ∈ mv, q.2.2 < m
  mlen : mv.length ≤ 5
def spSpec : Sp := fun vs H Q _ => ∃ (a : Addr) (z : Str) (r m : Nat), vs = [.ref a, .str z, .int r, .int m] ∧ Feed H a ∧ LettersOk z ∧ 1 ≤ r ∧ r ≤ 4 ∧ 1 ≤ m ∧ m ≤ 99 ∧
  ∀ T rl ml rxs mxs rus mv H', Ex H H' → H' T = some (.tup [.int r, .ref rl, .ref ml]) → H rl = none → H ml = none → rl ≠ ml → H' rl = some (.lst rxs) → Paired (Rt H') rxs rus → H' ml = some (.lst mxs) → Paired (Mt H') mxs mv → SpecOk z r m rus mv → Q (.ref T) H'
section
variable {P : Program} {w : World} {K : PySem.W.Frag} {mg : Str → Option Value} {base : Heap}
theorem ok_law_spec {f : Addr} {fd : FuncData} (F : FnP K "_law_spec" s_law_spec f fd) (mR : mg "range" = none) (mL : mg "len" = none) (mI : mg "int" = none) (cD : Cal P w K mg base CX0 "_law_draw" 1 2 spDraw) (cR : Cal P w K mg base CX0 "_law_rule" 2 4 spRule) : FnOk P w K mg base CX0 3 f fd P_law_spec spSpec := by
  refine fn_ok F sc_law_spec (fun vs H Q E ⟨a, _, _, _, h, _⟩ => by rw [h]; rfl) fun X vs H Q E C hfn ⟨a, z, r, m, hv, hF, hz, r1, r4, m1, m99, hq⟩ => ?_
  subst hv
  have n_feed_here : Nm X "_law_feed_here" 0 := C.nm rfl (by decide +kernel)
  have n_letters_here : Nm X "_law_letters_here" 1 := C.nm rfl (by decide +kernel)
  have n_rooms : Nm X "_law_rooms" 2 := C.nm rfl (by decide +kernel)
  have n_most : Nm X "_law_most" 3 := C.nm rfl (by decide +kernel)
  have n_rules : Nm X "_law_rules" 4 := C.nm rfl (by decide +kernel)
  have n_steps : Nm X "_law_steps" 5 := C.nm rfl (by decide +kernel)
  have n_letter : Nm X "_law_letter" 6 := C.nm rfl (by decide +kernel)
  have n_k : Nm X "_law_k" 7 := C.nm rfl (by decide +kernel)
  have n_turn : Nm X "_law_turn" 8 := C.nm rfl (by decide +kernel)
  have n_room : Nm X "_law_room" 9 := C.nm rfl (by decide +kernel)
  have w_rules : Ns X "_law_rules" 4 := C.ns rfl (by decide +kernel) (.inl (hfn _))
  have w_steps : Ns X "_law_steps" 5 := C.ns rfl (by decide +kernel) (.inl (hfn _))
  have w_letter : Ns X "_law_letter" 6 := C.ns rfl (by decide +kernel) (.inl (hfn _))
  have w_k : Ns X "_law_k" 7 := C.ns rfl (by decide +kernel) (.inl (hfn _))
  have w_turn : Ns X "_law_turn" 8 := C.ns rfl (by decide +kernel) (.inl (hfn _))
  have w_room : Ns X "_law_room" 9 := C.ns rfl (by decide +kernel) (.inl (hfn _))
  refine b_cons ?_
  kpc_turns
  refine n_lst (a_nil ⟨by show 0 ≤ sizeLine; decide, fun rl H1 nrl e1 hrl => ?_⟩)
  refine n_lst (a_nil ⟨by show 0 ≤ sizeLine; decide, fun ml H2 nml e2 hml => ?_⟩)
  have nml2 : H ml = none := ex_n e1 nml
  kpc_turns
  have hrl2 := e2 _ _ hrl
  have e12 := e1.trans e2
  have rml : rl ≠ ml := fun e => by rw [← e, hrl] at nml; cases nml
  have hzl := hz.len
  refine s_for C (i_str ?_)
  kpc_turns
  refine ⟨_, _, _, fun i σ H' => ∃ o6 o7 xs rus, σ = [some (.ref a), some (.str z), some (.int (r : Nat)), some (.int (m : Nat)), some (.ref rl), some (.ref ml), o6, o7, none, none] ∧ Ex H H' ∧ H' rl = some (.lst xs) ∧ H' ml = some (.lst []) ∧ Paired (Rt H') xs rus ∧ rus.length ≤ 2 * i ∧ (∀ u ∈ rus, u.ok r ∧ u.price ≤ m ∧ u.c ∈ tl z) ∧ ∀ t c, t < i → (tl z)[t]? = some c → ∃ u, u ∈ rus ∧ u.c = c,
    walk_str z, ⟨none, none, [], [], rfl, e12, hrl2, hml, .nil, Nat.le_refl _, fun u hu => (by cases hu), fun t c ht => absurd ht (by omega)⟩, fun _ _ _ _ _ => trivial, ?_, ?_⟩
  · rintro i x σ H3 H4 hi ⟨o6, o7, xs, rus, rfl, e3, hrl3, hml3, hp3, hn3, hok3, hall3⟩ e4 ⟨c, hc, rfl⟩
    have hcz : c ∈ tl z := List.mem_of_getElem? hc
    have hcL := hz.all c hcz
    kpc_turns
    refine s_for C (i_range1 (C.gl (by decide +kernel)) (by rw [C.mgl]; exact mR) ?_)
    kpc_turns
    refine draw_n (hF.mono (e3.trans e4)) (by omega) (by omega) fun d hd0 hd1 => ?_
    kpc_turns
    refine ⟨by omega, by omega, _, _, _, fun j σ H' => ∃ o7 xs rus, σ = [some (.ref a), some (.str z), some (.int (r : Nat)), some (.int (m : Nat)), some (.ref rl), some (.ref ml), some (.str ⟨#[c]⟩), o7, none, none] ∧ Ex H H' ∧ H' rl = some (.lst xs) ∧ H' ml = some (.lst []) ∧ Paired (Rt H') xs rus ∧ rus.length ≤ 2 * i + j ∧ (∀ u ∈ rus, u.ok r ∧ u.price ≤ m ∧ u.c ∈ tl z) ∧ (∀ t c, t < i → (tl z)[t]? = some c → ∃ u, u ∈ rus ∧ u.c = c) ∧ (0 < j → ∃ u, u ∈ rus ∧ u.c = c),
      walk_range 0 _, ⟨o7, xs, rus, rfl, e3.trans e4, e4 _ _ hrl3, e4 _ _ hml3, paired_imp (fun _ _ h => h.ex e4) hp3, hn3, hok3, hall3, fun h => absurd h (by omega)⟩, fun _ _ _ _ _ => trivial, ?_, ?_⟩
    · clear hrl3 hml3 hp3 hn3 hok3 hall3 e3 e4 xs rus
      rintro j x σ H5 H6 hj ⟨o7, xs, rus, rfl, e5, hrl5, hml5, hp5, hn5, hok5, hall5, hc5⟩ e6 rfl
      have hj2 : j < 2 := by omega
      have hxl := paired_len hp5
      kpc_turns
      refine ⟨rl, _, rfl, e6 _ _ hrl5, ?_⟩
      kpc_turns
      refine ⟨a, c, r, m, rfl, hF.mono (e5.trans e6), hcL, r1, r4, m1, m99, fun v u H7 e7 hv hu1 hu2 hu3 => ?_⟩
      refine ⟨_, e7 _ _ (e6 _ _ hrl5), small_lt (by omega), fun H8 x8 hl8' => ?_⟩
      have e8 : Ex H H8 := Xb.ex (e5.trans (e6.trans e7)) nrl x8
      have hl8 : Paired (Rt H8) (xs ++ [v]) (rus ++ [u]) := by
        have t8 : TK H7 H8 := TK.xb (e7 _ _ (e6 _ _ hrl5)) x8
        exact paired_app (paired_imp (fun _ _ h => (h.ex (e6.trans e7)).tk t8) hp5) (.cons (hv.tk t8) .nil)
      kpc_turns
      refine ⟨_, _, rus ++ [u], rfl, e8, hl8', x8 _ _ (fun e => rml e.symm) (e7 _ _ (e6 _ _ hml5)), hl8, by rw [List.length_append, List.length_cons, List.length_nil]; omega, fun y hy => ?_, fun t c' ht htc => ?_, fun _ => ⟨u, List.mem_append_right _ (List.mem_singleton.mpr rfl), hu1⟩⟩
      · rcases List.mem_append.mp hy with h | h
        · exact hok5 y h
        · rw [List.mem_singleton.mp h]; exact ⟨hu2, hu3, by rw [hu1]; exact hcz⟩
      · obtain ⟨y, h1, h2⟩ := hall5 t c' ht htc
        exact ⟨y, List.mem_append_left _ h1, h2⟩
    · rintro σ H5 ⟨o7, xs, rus, rfl, e5, hrl5, hml5, hp5, hn5, hok5, hall5, hc5⟩
      refine b_nil ⟨_, _, xs, rus, rfl, e5, hrl5, hml5, hp5, by omega, hok5, fun t c' ht htc => ?_⟩
      by_cases h : t = i
      · rw [h, hc] at htc
        obtain rfl := Option.some.inj htc
        exact hc5 (by omega)
      · exact hall5 t c' (by omega) htc
  · rintro σ H3 ⟨o6, o7, xs, rus, rfl, e3, hrl3, hml3, hp3, hn3, hok3, hall3⟩
    have hxl := paired_len hp3
    have hne : 0 < rus.length := by
      obtain ⟨c, hc, _⟩ := hz.leaf
      obtain ⟨t, ht, e⟩ := List.getElem_of_mem hc
      obtain ⟨u, hu, _⟩ := hall3 t c ht (by rw [List.getElem?_eq_getElem ht, e])
      exact List.length_pos_of_mem hu
    have hlet : ∀ c, c ∈ tl z ↔ ∃ u, u ∈ rus ∧ u.c = c := fun c => ⟨fun hc => by
      obtain ⟨t, ht, e⟩ := List.getElem_of_mem hc
      exact hall3 t c ht (by rw [List.getElem?_eq_getElem ht, e]), fun ⟨u, hu, e⟩ => by rw [← e]; exact (hok3 u hu).2.2⟩
    kpc_turns
    refine draw_n (hF.mono e3) (by omega) (by omega) fun d hd0 hd1 => ?_
    kpc_turns
    refine s_for C (i_range1 (C.gl (by decide +kernel)) (by rw [C.mgl]; exact mR) ?_)
    kpc_turns
    refine ⟨by omega, by omega, _, _, _, fun k σ H' => ∃ o9 ms mv, σ = [some (.ref a), some (.str z), some (.int (r : Nat)), some (.int (m : Nat)), some (.ref rl), some (.ref ml), o6, o7, some (.int d), o9] ∧ Ex H H' ∧ H' rl = some (.lst xs) ∧ H' ml = some (.lst ms) ∧ Paired (Rt H') xs rus ∧ Paired (Mt H') ms mv ∧ mv.length = (if 1 < r then k else 0) ∧ ∀ t q, mv[t]? = some q → q.1 = t ∧ q.2.1 = (t + 1) % r ∧ q.2.2 < m,
      walk_range 0 _, ⟨none, [], [], rfl, e3, hrl3, hml3, hp3, .nil, by split <;> rfl, fun t q h => (by cases h)⟩, fun _ _ _ _ _ => trivial, ?_, ?_⟩
    · rintro k x σ H4 H5 hk ⟨o9, ms, mv, rfl, e4, hrl4, hml4, hp4, hm4, hn4, hg4⟩ e5 hx
      have hx : x = .int (k : Nat) := by rw [hx, Int.zero_add]
      subst hx
      have hml := paired_len hm4
      kpc_turns
      refine if_d (fun hr => ?_) fun hr => ?_
      · rw [if_pos (by omega)] at hn4
        kpc_turns
        refine ⟨ml, _, rfl, e5 _ _ hml4, ?_⟩
        refine n_tup ?_
        kpc_turns
        refine draw_n (hF.mono (e4.trans e5)) (by omega) (by omega) fun c hc0 hc1 => ?_
        kpc_turns
        refine ⟨by show 3 ≤ sizeLine; decide, fun T H6 nT e6 hT => ?_⟩
        refine ⟨_, e6 _ _ (e5 _ _ hml4), small_lt (by omega), fun H7 x7 hl7 => ?_⟩
        have t7 : TK H6 H7 := TK.xb (e6 _ _ (e5 _ _ hml4)) x7
        have e67 : Ex H H7 := Xb.ex (e4.trans (e5.trans e6)) nml2 x7
        kpc_turns
        refine ⟨_, _, mv ++ [(k, (k + 1) % r, c.toNat)], rfl, e67, x7 _ _ rml (e6 _ _ (e5 _ _ hrl4)), hl7, paired_imp (fun _ _ h => (h.ex (e5.trans e6)).tk t7) hp4, paired_app (paired_imp (fun _ _ h => h.tk ((TK.ex (e5.trans e6)).trans t7)) hm4) (.cons ⟨T, rfl, t7 _ _ ?_⟩ .nil), by rw [if_pos (by omega), List.length_append, List.length_cons, List.length_nil]; omega, fun t q ht => ?_⟩
        · rw [hT, show c = ((c.toNat : Nat) : Int) by omega]
          have e1 : ((k : Int) + 1) % (r : Int) = (((k + 1) % r : Nat) : Int) := by rw [Int.natCast_emod, Int.natCast_add]; rfl
          rw [e1]
          rfl
        · by_cases h : t < mv.length
          · rw [List.getElem?_append_left h] at ht
            exact hg4 t q ht
          · rw [List.getElem?_append_right (by omega)] at ht
            have h0 : t - mv.length = 0 := by
              have := (List.getElem?_eq_some_iff.mp ht).1
              simp at this
              omega
            rw [h0] at ht
            obtain rfl := Option.some.inj ht
            refine ⟨by show k = t; omega, by show (k + 1) % r = (t + 1) % r; rw [show k = t by omega], by show c.toNat < m; omega⟩
      · rw [if_neg (by omega)] at hn4
        kpc_turns
        exact ⟨_, ms, mv, rfl, e4.trans e5, e5 _ _ hrl4, e5 _ _ hml4, paired_imp (fun _ _ h => h.ex e5) hp4, paired_imp (fun _ _ h => h.tk (TK.ex e5)) hm4, by rw [if_neg (by omega)]; exact hn4, hg4⟩
    · rintro σ H4 ⟨o9, ms, mv, rfl, e4, hrl4, hml4, hp4, hm4, hn4, hg4⟩
      have hR : MvR r mv := mvR_ring hn4 fun t q ht => by
        obtain ⟨h1, h2, h3⟩ := hg4 t q ht
        exact ⟨h1, h2, by omega⟩
      have hms : ∀ q ∈ mv, q.2.2 < m := fun q hq => by
        obtain ⟨t, ht, e⟩ := List.getElem_of_mem hq
        exact (hg4 t q (by rw [List.getElem?_eq_getElem ht, e])).2.2
      have hln4 : mv.length ≤ 4 := by rw [hn4]; split <;> omega
      have fin : ∀ (H5 : Hp) (ms5 : List V) (mv5 : List Mv), Ex H H5 → H5 rl = some (.lst xs) → H5 ml = some (.lst ms5) → Paired (Rt H5) xs rus → Paired (Mt H5) ms5 mv5 → MvR r mv5 → (∀ q ∈ mv5, q.2.2 < m) → mv5.length ≤ 5 →
          zB X ((defBody s_law_spec).drop 5) (fun _ H' => Q .non H') Q (fun _ _ => False) (fun _ _ => False) [some (.ref a), some (.str z), some (.int (r : Nat)), some (.int (m : Nat)), some (.ref rl), some (.ref ml), o6, o7, some (.int d), o9] H5 := by
        intro H5 ms5 mv5 e5 hrl5 hml5 hp5 hm5 hR5 hms5 hln5
        obtain ⟨j, rfl⟩ : ∃ j : Nat, d = j := ⟨d.toNat, by omega⟩
        refine b_cons ?_
        kpc_turns
        refine n_tup ?_
        kpc_turns
        refine l_sl (SqL.of hrl5) fun p1 H6 n1 e6 hp1 => ?_
        rw [cutV_drop] at hp1
        kpc_turns
        refine l_sl (SqL.of (e6 _ _ hrl5)) fun p2 H7 n2 e7 hp2 => ?_
        rw [cutV_take] at hp2
        refine o_addL (e7 _ _ hp1) hp2 (sz_le (by rw [List.length_take, List.length_drop]; omega)) fun p3 H8 n3 e8 hp3 => ?_
        kpc_turns
        refine ⟨by show 3 ≤ sizeLine; decide, fun T H9 nT e9 hT => ?_⟩
        have e59 := ((e6.trans e7).trans e8).trans e9
        have hp9 : Paired (Rt H9) xs rus := paired_imp (fun _ _ h => h.ex e59) hp5
        have hpm : ∀ u, u ∈ rus.drop j ++ rus.take j ↔ u ∈ rus := fun u => by rw [List.mem_append, Or.comm, ← List.mem_append, List.take_append_drop]
        refine hq T p3 ml _ ms5 (rus.drop j ++ rus.take j) mv5 H9 (e5.trans e59) hT (ex_n (e5.trans (e6.trans e7)) n3) nml2 (fun z => by rw [z, e7 _ _ (e6 _ _ hml5)] at n3; cases n3) (e9 _ _ hp3) (paired_app (paired_drop hp9 j) (paired_take hp9 j)) (e59 _ _ hml5) (paired_imp (fun _ _ h => h.tk (TK.ex e59)) hm5) ⟨fun u hu => ?_, fun c => ?_, ?_, hR5, hms5, hln5⟩
        · have := hok3 u ((hpm u).mp hu)
          exact ⟨this.1, this.2.1⟩
        · rw [hlet c]
          exact ⟨fun ⟨u, h1, h2⟩ => ⟨u, (hpm u).mpr h1, h2⟩, fun ⟨u, h1, h2⟩ => ⟨u, (hpm u).mp h1, h2⟩⟩
        · rw [List.length_append, List.length_take, List.length_drop]; omega
      kpc_turns
      refine if_d (fun hr => ?_) fun _ => ?_
      · have hmn : mv.length = r := by rw [hn4, if_pos (by omega)]; omega
        have hml := paired_len hm4
        kpc_turns
        refine draw_n (hF.mono e4) (by omega) (by omega) fun d1 hd10 hd11 => ?_
        kpc_turns
        refine if_d (fun _ => ?_) fun _ => ?_
        · kpc_turns
          refine ⟨ml, _, rfl, hml4, ?_⟩
          refine n_tup ?_
          kpc_turns
          refine draw_n (hF.mono e4) (by omega) (by omega) fun d2 hd20 hd21 => ?_
          kpc_turns
          refine draw_n (hF.mono e4) (by omega) (by omega) fun c hc0 hc1 => ?_
          kpc_turns
          refine ⟨by show 3 ≤ sizeLine; decide, fun T H5 nT e5 hT => ?_⟩
          refine ⟨_, e5 _ _ hml4, small_lt (by omega), fun H6 x6 hl6 => ?_⟩
          have t6 : TK H5 H6 := TK.xb (e5 _ _ hml4) x6
          have e6 : Ex H H6 := Xb.ex (e4.trans e5) nml2 x6
          have hrl6 := x6 _ _ rml (e5 _ _ hrl4)
          have hp6 : Paired (Rt H6) xs rus := paired_imp (fun _ _ h => (h.ex e5).tk t6) hp4
          have hm6 : Paired (Mt H6) ms mv := paired_imp (fun _ _ h => h.tk ((TK.ex e5).trans t6)) hm4
          have hT6 := t6 _ _ hT
          kpc_turns
          refine x_l (v := .ref T) (SqL.of hl6) (at_last (by simp)) ?_
          kpc_turns
          refine n_tup ?_
          kpc_turns
          refine ⟨by show 2 ≤ sizeLine; decide, fun T2 H7 n2 e7 hT2 => ?_⟩
          refine o_inTI (ns := [0, (r : Int) - 1]) (SqT.of hT2) ?_
          have hrl7 := e7 _ _ hrl6
          have e07 := e6.trans e7
          have hp7 : Paired (Rt H7) xs rus := paired_imp (fun _ _ h => h.ex e7) hp6
          have hm7 : Paired (Mt H7) ms mv := paired_imp (fun _ _ h => h.tk (TK.ex e7)) hm6
          refine ⟨_, rfl, if_d (fun hin => ?_) fun hin => ?_⟩
          · kpc_turns
            refine ⟨ml, ms, .ref T, rfl, e7 _ _ hl6, fun H8 x8 hl8 => ?_⟩
            have t8 : TK H7 H8 := TK.xb (e7 _ _ hl6) x8
            refine b_nil (b_nil ?_)
            exact fin H8 ms mv (Xb.ex e07 nml2 x8) (x8 _ _ rml hrl7) hl8 (paired_imp (fun _ _ h => h.tk t8) hp7) (paired_imp (fun _ _ h => h.tk t8) hm7) hR hms (by omega)
          · refine b_nil (b_nil ?_)
            have h0 : d2 ≠ 0 := fun e => hin (by rw [e]; exact List.mem_cons_self ..)
            have h1 : d2 ≠ (r : Int) - 1 := fun e => hin (by rw [e]; simp)
            refine fin H7 (ms ++ [.ref T]) (mv ++ [(d2.toNat, 0, c.toNat)]) e07 hrl7 (e7 _ _ hl6) hp7 (paired_app hm7 (.cons ⟨T, rfl, e7 _ _ (t6 _ _ ?_)⟩ .nil)) (hR.add ⟨by show d2.toNat < r; omega, by show 0 < r; omega, by show d2.toNat ≠ 0; omega, by show c.toNat ≤ 99; omega⟩ ?_) ?_ ?_
            · rw [hT, show d2 = ((d2.toNat : Nat) : Int) by omega, show c = ((c.toNat : Nat) : Int) by omega]
              rfl
            · intro hm
              obtain ⟨q, hq1, hq2⟩ := List.mem_map.mp hm
              obtain ⟨t, ht, e⟩ := List.getElem_of_mem hq1
              obtain ⟨g1, g2, _⟩ := hg4 t q (by rw [List.getElem?_eq_getElem ht, e])
              have e1 : q.1 = d2.toNat := congrArg Prod.fst hq2
              have e2 : q.2.1 = 0 := congrArg Prod.snd hq2
              rw [e2] at g2
              have htr : t + 1 < r := by omega
              rw [Nat.mod_eq_of_lt htr] at g2
              omega
            · intro q hq1
              rcases List.mem_append.mp hq1 with h | h
              · exact hms q h
              · rw [List.mem_singleton.mp h]; show c.toNat < m; omega
            · rw [List.length_append, List.length_singleton]; omega
        · refine b_nil ?_
          exact fin H4 ms mv e4 hrl4 hml4 hp4 hm4 hR hms (by omega)
      · refine if_cf rfl (b_nil ?_)
        exact fin H4 ms mv e4 hrl4 hml4 hp4 hm4 hR hms (by omega)
end

/-! != of own classes -/
structure CalE (P : Program) (w : World) (K : PySem.W.Frag) (mg : Str → Option Value) (base : Heap) (CX : CXT) (C : Addr) (j : Nat) (sp : Sp) : Prop where
  ex : ∃ (f : Addr) (fd : FuncData) (ps : List Str), OwnE K C f ∧ FnOk P w K mg base CX j f fd ps sp ∧ Binds K fd ps []
section
variable {X : Cx} {CX : CXT} {P : Program} {w : World} {K : PySem.W.Frag} {mg : Str → Option Value} {base : Heap} {N : List Str} {sc : Scope} {k j : Nat} {H : Hp} {Q : VK} {sp : Sp} {E : XK}
theorem o_neC {C a b dx dy : Addr} {fs gs : List (Str × V)} (Cc : Ctx X P w K mg base N sc k) (c : CalE P w K mg base CX C j sp) (hj : j + 1 ≤ k) (hx : Passes CX X E)
    (ha : H a = some (.ins C dx fs)) (hb : H b = some (.ins C dy gs)) (h : sp [.ref a, .ref b] H (fun v H1 => ∃ r, v = .bl r ∧ Q (.bl (!r)) H1) E) : zO X (compareOp .NotEq) (.ref a) (.ref b) H Q := by
  obtain ⟨f, fd, ps, T, F, B⟩ := c.ex
  exact o_neM Cc T F B hj hx ha hb h
end
theorem passE0n {X : Cx} {P : Program} {w : World} {K : PySem.W.Frag} {mg : Str → Option Value} {base : Heap} {N : List Str} {sc : Scope} {k : Nat} (C : Ctx X P w K mg base N sc k) : Passes (L2.CX P w) X.nox E0 := fun pins σ H s e s' I z => passL (X := X.nox) pins σ H s e s' I (by rw [show X.nox.prog = P from C.prog, show X.nox.w = w from C.wld]; exact z)

/-! what a valid chooser is -/
theorem Out0.mono {E : XK} {H H' : Hp} {CA : Addr} {tag : Str} (h : Out0 E H CA tag) (e : Ex H H') : Out0 E H' CA tag := fun d H1 e1 hd => h d H1 (e.trans e1) hd
theorem Out.mono {E : XK} {H H' : Hp} {CA : Addr} {tag fld : Str} {v : V} (h : Out E H CA tag fld v) (e : Ex H H') : Out E H' CA tag fld v := fun d H1 e1 hd => h d H1 (e.trans e1) hd
structure ChV (r : Nat) (rus : List Rul) (mv : List Mv) : Prop where
  r1 : 1 ≤ r
  r4 : r ≤ 4
  ok : ∀ u ∈ rus, u.ok r
  len : rus.length ≤ 24
  mo : MvOk r mv
  jo : Joined r mv
def noL (rus : List Rul) : Prop := ∀ u, u ∈ rus → ar u.c ≠ 0
theorem some_leaf {rus : List Rul} (h : ∃ u, u ∈ rus ∧ ar u.c = 0) : ¬ noL rus := fun z => by
  obtain ⟨u, h1, h2⟩ := h
  exact z u h1 h2

/-! the feed stands while a table grows -/
theorem Feed.extL {H H' : Hp} {a : Addr} (f : Feed H a) (x : LamX.ExtN H H') : Feed H' a := by
  obtain ⟨ca, cells, h1, h2, h3⟩ := f.ex
  exact ⟨ca, cells, x _ _ h1 (fun _ z => by cases z), x _ _ h2 (fun _ z => by cases z), h3⟩

/-! a chooser made by a law -/
structure Made (CC : Addr) (H : Hp) (r : Nat) (rl ml a : Addr) (rxs mxs : List V) (rus : List Rul) (mv : List Mv) : Prop where
  hrl : H rl = some (.lst rxs)
  hml : H ml = some (.lst mxs)
  hru : Paired (Rt H) rxs rus
  hmv : Paired (Mt H) mxs mv
  vd : ChV r rus mv
  mR : MvR r mv
  len : rus.length ≤ 12
  leaf : ¬ noL rus
  ch : ChO CC H a r rus mv
theorem Rt.extN {H H' : Hp} {v : V} {u : Rul} (h : Rt H v u) (x : LamX.ExtN H H') : Rt H' v u := by
  obtain ⟨T, N, h1, h2, h3⟩ := h
  exact ⟨T, N, h1, x _ _ h2 (fun _ z => by cases z), x _ _ h3 (fun _ z => by cases z)⟩
theorem tk_extN {H H' : Hp} (x : LamX.ExtN H H') : TK H H' := fun b xs h => x _ _ h (fun _ z => by cases z)
theorem ChO.extN {CC a : Addr} {H H' : Hp} {r : Nat} {rus : List Rul} {mv : List Mv} (h : ChO CC H a r rus mv) (x : LamX.ExtN H H') : ChO CC H' a r rus mv := by
  obtain ⟨dx, wl, rr, mr, z, ds, rxs, mxs, h1, h2, h3, h4, h5, h6, h7, h8, h9⟩ := h
  have kp : KP H H' := ⟨fun b xs h => x _ _ h (fun _ z => by cases z), fun b xs h => x _ _ h (fun _ z => by cases z), fun b xs h => x _ _ h (fun _ z => by cases z)⟩
  exact ⟨dx, wl, rr, mr, z, ds, rxs, mxs, x _ _ h1 (fun _ z => by cases z), kp.l _ _ h2, h3, h4.kp kp, kp.l _ _ h5, paired_imp (fun _ _ h => h.extN x) h6, kp.l _ _ h7, paired_imp (fun _ _ h => h.tk kp.t) h8, h9⟩
theorem ChO.exE {CC a : Addr} {H H' : Hp} {r : Nat} {rus : List Rul} {mv : List Mv} (h : ChO CC H a r rus mv) (e : Ex H H') : ChO CC H' a r rus mv := h.extN (.of e)
theorem Made.extN {CC : Addr} {H H' : Hp} {r : Nat} {rl ml a : Addr} {rxs mxs : List V} {rus : List Rul} {mv : List Mv} (h : Made CC H r rl ml a rxs mxs rus mv) (x : LamX.ExtN H H') : Made CC H' r rl ml a rxs mxs rus mv :=
  ⟨x _ _ h.hrl (fun _ z => by cases z), x _ _ h.hml (fun _ z => by cases z), paired_imp (fun _ _ h => h.extN x) h.hru, paired_imp (fun _ _ h => h.tk (tk_extN x)) h.hmv, h.vd, h.mR, h.len, h.leaf, h.ch.extN x⟩
theorem Made.ex {CC : Addr} {H H' : Hp} {r : Nat} {rl ml a : Addr} {rxs mxs : List V} {rus : List Rul} {mv : List Mv} (h : Made CC H r rl ml a rxs mxs rus mv) (e : Ex H H') : Made CC H' r rl ml a rxs mxs rus mv := h.extN (.of e)

/-! plain: what a tree costs, by its nodes from the last to the first -/
/-- one node: what stands on the stack for its subtrees goes, what it gives comes -/
def stepS {α : Type} (f : Nat → List α → α) (c : Nat) (st : List α) : List α := f c (st.take (ar c)) :: st.drop (ar c)
def stk {α : Type} (f : Nat → List α → α) (w : List Nat) : List α := w.foldr (stepS f) []
theorem stk_cons {α : Type} (f : Nat → List α → α) (c : Nat) (w : List Nat) : stk f (c :: w) = f c ((stk f w).take (ar c)) :: (stk f w).drop (ar c) := rfl
theorem stk_len {α : Type} (f : Nat → List α → α) : ∀ (w : List Nat) (v : Nat), con v w = some 0 → (stk f w).length = v
  | [], v, h => by rw [con_nil] at h; cases h; rfl
  | c :: w, v, h => by
    obtain ⟨u, rfl, _, h2⟩ := con_cons h
    rw [stk_cons, List.length_cons, List.length_drop, stk_len f w _ h2]
    omega
def minI : List Int → Int
  | [] => 0
  | x :: r => r.foldl min x
theorem foldl_min_le : ∀ (r : List Int) (x : Int), r.foldl min x ≤ x ∧ ∀ y ∈ r, r.foldl min x ≤ y
  | [], x => ⟨Int.le_refl _, fun _ h => by cases h⟩
  | z :: r, x => by
    obtain ⟨h1, h2⟩ := foldl_min_le r (min x z)
    refine ⟨by show r.foldl min (min x z) ≤ x; omega, fun y hy => ?_⟩
    rcases List.mem_cons.mp hy with rfl | hy
    · show r.foldl min (min x y) ≤ y; omega
    · exact h2 y hy
theorem foldl_min_mem : ∀ (r : List Int) (x : Int), r.foldl min x = x ∨ r.foldl min x ∈ r
  | [], x => .inl rfl
  | z :: r, x => by
    rcases foldl_min_mem r (min x z) with h | h
    · show r.foldl min (min x z) = x ∨ r.foldl min (min x z) ∈ z :: r
      rw [h]
      by_cases hxz : x ≤ z
      · left; omega
      · right; rw [show min x z = z by omega]; exact List.mem_cons_self ..
    · exact .inr (List.mem_cons_of_mem _ h)
theorem minI_le {xs : List Int} {x : Int} (h : x ∈ xs) : minI xs ≤ x := by
  cases xs with
  | nil => cases h
  | cons y r =>
    obtain ⟨h1, h2⟩ := foldl_min_le r y
    rcases List.mem_cons.mp h with rfl | h
    · exact h1
    · exact h2 x h
theorem minI_mem {xs : List Int} (h : xs ≠ []) : minI xs ∈ xs := by
  cases xs with
  | nil => exact absurd rfl h
  | cons y r =>
    rcases foldl_min_mem r y with h | h
    · rw [show minI (y :: r) = r.foldl min y from rfl, h]; exact List.mem_cons_self ..
    · exact List.mem_cons_of_mem _ h
theorem minI_eq {xs : List Int} {m : Int} (h1 : m ∈ xs) (h2 : ∀ y ∈ xs, m ≤ y) : minI xs = m := by
  have a := minI_le h1
  have b := h2 _ (minI_mem (fun e => by rw [e] at h1; cases h1))
  omega
/-- each of ys has one of xs that is not above it -/
theorem minI_mono {xs ys : List Int} (hy : ys ≠ []) (h : ∀ y ∈ ys, ∃ x ∈ xs, x ≤ y) : minI xs ≤ minI ys := by
  obtain ⟨x, h1, h2⟩ := h _ (minI_mem hy)
  have := minI_le h1
  omega
/-- a number more everywhere -/
theorem minI_add (d : Int) {xs : List Int} (h : xs ≠ []) : minI (xs.map (· + d)) = minI xs + d :=
  minI_eq (List.mem_map.mpr ⟨_, minI_mem h, rfl⟩) fun y hy => by
    obtain ⟨x, hx, rfl⟩ := List.mem_map.mp hy
    have := minI_le hx
    show minI xs + d ≤ x + d
    omega
/-- what the subtrees cost in the rooms that a rule needs -/
def sumN (inner : List (List Int)) (needs : List Nat) : Int := (List.zipWith (fun (v : List Int) (n : Nat) => v.getD n 0) inner needs).sum
def ruleC (inner : List (List Int)) (u : Rul) : Int := (u.price : Int) + sumN inner u.needs
/-- what a node costs in each room; W i g: the way from i to g -/
def nodeC (W : Nat → Nat → Int) (rus : List Rul) (r c : Nat) (inner : List (List Int)) : List Int := (List.range r).map fun g => minI ((rus.filter fun u => u.c == c).map fun u => ruleC inner u + W u.room g)
def cst (W : Nat → Nat → Int) (rus : List Rul) (r : Nat) (w : List Nat) : List (List Int) := stk (nodeC W rus r) w
/-- less the least -/
def nrm (v : List Int) : List Int := v.map fun x => x - minI v
def shf (d : Int) (v : List Int) : List Int := v.map fun x => x - d
theorem getD_shf {v : List Int} {d : Int} {n : Nat} (h : n < v.length) : (shf d v).getD n 0 = v.getD n 0 - d := by
  unfold shf
  simp [List.getD, h]
theorem sumN_shf : ∀ (inner : List (List Int)) (needs : List Nat) (f : List Int → Int) (r : Nat), (∀ v ∈ inner, v.length = r) → needs.length = inner.length → (∀ n ∈ needs, n < r) → sumN (inner.map fun v => shf (f v) v) needs = sumN inner needs - (inner.map f).sum
  | [], [], _, _, _, _, _ => rfl
  | [], _ :: _, _, _, _, h, _ => by cases h
  | _ :: _, [], _, _, _, h, _ => by cases h
  | v :: inner, n :: needs, f, r, h1, h2, h3 => by
    have ih := sumN_shf inner needs f r (fun v hv => h1 v (List.mem_cons_of_mem _ hv)) (by simpa using h2) fun n hn => h3 n (List.mem_cons_of_mem _ hn)
    unfold sumN at ih ⊢
    rw [List.map_cons, List.map_cons, List.zipWith_cons_cons, List.zipWith_cons_cons, List.sum_cons, List.sum_cons, List.sum_cons, ih, getD_shf (by rw [h1 v (List.mem_cons_self ..)]; exact h3 n (List.mem_cons_self ..))]
    omega
theorem nodeC_len (W : Nat → Nat → Int) (rus : List Rul) (r c : Nat) (inner : List (List Int)) : (nodeC W rus r c inner).length = r := by
  unfold nodeC
  rw [List.length_map, List.length_range]
theorem nodeC_get {W : Nat → Nat → Int} {rus : List Rul} {r c : Nat} {inner : List (List Int)} {g : Nat} (h : g < r) : (nodeC W rus r c inner).getD g 0 = minI ((rus.filter fun u => u.c == c).map fun u => ruleC inner u + W u.room g) := by
  unfold nodeC
  simp [List.getD, h]
theorem filt_ne {rus : List Rul} {c : Nat} (h : ∃ u, u ∈ rus ∧ u.c = c) : (rus.filter fun u => u.c == c) ≠ [] := fun e => by
  obtain ⟨u, h1, h2⟩ := h
  have : u ∈ rus.filter fun u => u.c == c := List.mem_filter.mpr ⟨h1, by simp [h2]⟩
  rw [e] at this
  cases this
/-- each subtree's costs less a number: the node's costs less their sum -/
theorem nodeC_shf {W : Nat → Nat → Int} {rus : List Rul} {r c : Nat} {inner : List (List Int)} (f : List Int → Int) (hr : ∀ u ∈ rus, u.ok r) (hc : ∃ u, u ∈ rus ∧ u.c = c) (hl : inner.length = ar c) (h1 : ∀ v ∈ inner, v.length = r) :
    nodeC W rus r c (inner.map fun v => shf (f v) v) = shf ((inner.map f).sum) (nodeC W rus r c inner) := by
  unfold nodeC shf
  rw [List.map_map]
  refine List.map_congr_left fun g _ => ?_
  show _ = minI _ - (inner.map f).sum
  have hne : ((rus.filter fun u => u.c == c).map fun u => ruleC inner u + W u.room g) ≠ [] := fun e => filt_ne hc (List.map_eq_nil_iff.mp e)
  rw [Int.sub_eq_add_neg, ← minI_add _ hne, List.map_map]
  congr 1
  refine List.map_congr_left fun u hu => ?_
  obtain ⟨hu1, hu2⟩ := List.mem_filter.mp hu
  have huc : u.c = c := by simpa using hu2
  have hok := hr u hu1
  have := sumN_shf inner u.needs f r h1 (by rw [hok.2.1, huc, hl]) hok.2.2.1
  unfold shf at this
  show (u.price : Int) + sumN _ u.needs + W u.room g = (u.price : Int) + sumN inner u.needs + W u.room g + -(inner.map f).sum
  rw [this]
  omega
theorem cst_rows {W : Nat → Nat → Int} {rus : List Rul} {r : Nat} : ∀ (w : List Nat) (v : List Int), v ∈ cst W rus r w → v.length = r
  | [], v, h => by cases h
  | c :: w, v, h => by
    unfold cst at h
    rw [stk_cons] at h
    rcases List.mem_cons.mp h with rfl | h
    · exact nodeC_len ..
    · exact cst_rows w v (List.mem_of_mem_drop h)

/-! plain: the folding with keys and fees -/
theorem nrm_shf (v : List Int) : nrm v = shf (minI v) v := rfl
/-- the keys on the stack and the fees, from the costs -/
def keysS (cs : List (List Int)) : List (List Int) := cs.map nrm
def feesS (cs : List (List Int)) : Int := (cs.map minI).sum
theorem nrm_of_shf {v : List Int} (d : Int) (h : v ≠ []) : nrm (shf d v) = nrm v ∧ minI (shf d v) = minI v - d := by
  have e : minI (shf d v) = minI v - d := by
    have := minI_add (-d) h
    unfold shf
    rw [show (fun x : Int => x - d) = (fun x => x + -d) from funext fun x => Int.sub_eq_add_neg, this]
    omega
  refine ⟨?_, e⟩
  unfold nrm
  rw [e]
  unfold shf
  rw [List.map_map]
  refine List.map_congr_left fun x _ => ?_
  show x - d - (minI v - d) = x - minI v
  omega
/-- one node: what step_key gives of the keys, in terms of the costs -/
theorem step_costs {W : Nat → Nat → Int} {rus : List Rul} {r c : Nat} {cs : List (List Int)} (hr : ∀ u ∈ rus, u.ok r) (r1 : 1 ≤ r) (hc : ∃ u, u ∈ rus ∧ u.c = c) (hl : ar c ≤ cs.length) (h1 : ∀ v ∈ cs, v.length = r) :
    nrm (nodeC W rus r c ((keysS cs).take (ar c))) = nrm (nodeC W rus r c (cs.take (ar c))) ∧
    minI (nodeC W rus r c ((keysS cs).take (ar c))) + feesS cs = feesS (nodeC W rus r c (cs.take (ar c)) :: cs.drop (ar c)) := by
  have e : (keysS cs).take (ar c) = (cs.take (ar c)).map fun v => shf (minI v) v := by unfold keysS; rw [← List.map_take]; rfl
  have hlt : (cs.take (ar c)).length = ar c := by rw [List.length_take]; omega
  have hne : nodeC W rus r c (cs.take (ar c)) ≠ [] := fun z => by
    have := nodeC_len W rus r c (cs.take (ar c))
    rw [z] at this
    simp at this
    omega
  rw [e, nodeC_shf minI hr hc hlt fun v hv => h1 v (List.mem_of_mem_take hv)]
  obtain ⟨a, b⟩ := nrm_of_shf ((cs.take (ar c)).map minI).sum hne
  refine ⟨a, ?_⟩
  rw [b]
  have h2 : feesS cs = ((cs.take (ar c)).map minI).sum + ((cs.drop (ar c)).map minI).sum := by
    unfold feesS
    rw [← List.sum_append_int, ← List.map_append, List.take_append_drop]
  rw [h2]
  show _ = ((_ :: cs.drop (ar c)).map minI).sum
  rw [List.map_cons, List.sum_cons]
  omega
/-- v is never above u by more than the way -/
def TriW (W : Nat → Nat → Int) (r : Nat) : Prop := (∀ i j k, i < r → j < r → k < r → W i k ≤ W i j + W j k) ∧ (∀ i j, i < r → j < r → 0 ≤ W i j) ∧ ∀ i, i < r → W i i = 0
def LipW (W : Nat → Nat → Int) (r : Nat) (v : List Int) : Prop := ∀ g h, g < r → h < r → v.getD h 0 ≤ v.getD g 0 + W g h
theorem nodeC_lip {W : Nat → Nat → Int} {rus : List Rul} {r c : Nat} {inner : List (List Int)} (hW : TriW W r) (hr : ∀ u ∈ rus, u.ok r) (hc : ∃ u, u ∈ rus ∧ u.c = c) : LipW W r (nodeC W rus r c inner) := by
  intro g h hg hh
  rw [nodeC_get hg, nodeC_get hh]
  have hne : ((rus.filter fun u => u.c == c).map fun u => ruleC inner u + W u.room g) ≠ [] := fun e => filt_ne hc (List.map_eq_nil_iff.mp e)
  obtain ⟨u, hu, e⟩ := List.mem_map.mp (minI_mem hne)
  have hok := hr u (List.mem_filter.mp hu).1
  have h2 : minI ((rus.filter fun u => u.c == c).map fun u => ruleC inner u + W u.room h) ≤ ruleC inner u + W u.room h := minI_le (List.mem_map.mpr ⟨u, hu, rfl⟩)
  have := hW.1 u.room g h hok.2.2.2.1 hg hh
  omega
theorem cst_lip {W : Nat → Nat → Int} {rus : List Rul} {r : Nat} (hW : TriW W r) (hr : ∀ u ∈ rus, u.ok r) : ∀ (w : List Nat), (∀ c ∈ w, ∃ u, u ∈ rus ∧ u.c = c) → ∀ v ∈ cst W rus r w, LipW W r v
  | [], _, v, h => by cases h
  | c :: w, hc, v, h => by
    unfold cst at h
    rw [stk_cons] at h
    rcases List.mem_cons.mp h with rfl | h
    · exact nodeC_lip hW hr (hc c (List.mem_cons_self ..))
    · exact cst_lip hW hr w (fun d hd => hc d (List.mem_cons_of_mem _ hd)) v (List.mem_of_mem_drop h)
/-- b lies between a + lo and a + hi in each room -/
def Btw (r : Nat) (lo hi : Int) (a b : List Int) : Prop := ∀ g, g < r → a.getD g 0 + lo ≤ b.getD g 0 ∧ b.getD g 0 ≤ a.getD g 0 + hi
/-- the lists of costs are alike but at one place, there they are apart by lo to hi -/
inductive One (r : Nat) (lo hi : Int) : List (List Int) → List (List Int) → Prop
  | here {a b : List Int} {xs : List (List Int)} : Btw r lo hi a b → One r lo hi (a :: xs) (b :: xs)
  | there {a : List Int} {xs ys : List (List Int)} : One r lo hi xs ys → One r lo hi (a :: xs) (a :: ys)
theorem One.split {r : Nat} {lo hi : Int} : ∀ {xs ys : List (List Int)}, One r lo hi xs ys → ∀ n, (One r lo hi (xs.take n) (ys.take n) ∧ xs.drop n = ys.drop n) ∨ (xs.take n = ys.take n ∧ One r lo hi (xs.drop n) (ys.drop n))
  | _, _, .here h, 0 => .inr ⟨rfl, .here h⟩
  | _, _, .here h, n + 1 => .inl ⟨.here h, rfl⟩
  | _, _, .there h, 0 => .inr ⟨rfl, .there h⟩
  | _, _, .there (a := a) h, n + 1 => by
    rcases h.split n with ⟨h1, h2⟩ | ⟨h1, h2⟩
    · exact .inl ⟨.there h1, h2⟩
    · exact .inr ⟨by rw [List.take_succ_cons, List.take_succ_cons, h1], h2⟩
theorem One.len {r : Nat} {lo hi : Int} : ∀ {xs ys : List (List Int)}, One r lo hi xs ys → xs.length = ys.length
  | _, _, .here _ => rfl
  | _, _, .there h => by rw [List.length_cons, List.length_cons, h.len]
theorem One.sum {r : Nat} {lo hi : Int} : ∀ {xs ys : List (List Int)}, One r lo hi xs ys → ∀ (needs : List Nat), needs.length = xs.length → (∀ n ∈ needs, n < r) → sumN xs needs + lo ≤ sumN ys needs ∧ sumN ys needs ≤ sumN xs needs + hi
  | _, _, .here _, [], h, _ => by cases h
  | _, _, .there _, [], h, _ => by cases h
  | _, _, .here (a := a) (b := b) (xs := xs) h, n :: needs, hl, hn => by
    have := h n (hn n (List.mem_cons_self ..))
    show (List.zipWith _ (a :: xs) (n :: needs)).sum + lo ≤ (List.zipWith _ (b :: xs) (n :: needs)).sum ∧ (List.zipWith _ (b :: xs) (n :: needs)).sum ≤ (List.zipWith _ (a :: xs) (n :: needs)).sum + hi
    rw [List.zipWith_cons_cons, List.zipWith_cons_cons, List.sum_cons, List.sum_cons]
    omega
  | _, _, .there (a := a) (xs := xs) (ys := ys) h, n :: needs, hl, hn => by
    have := h.sum needs (by simpa using hl) fun m hm => hn m (List.mem_cons_of_mem _ hm)
    unfold sumN at this
    show (List.zipWith _ (a :: xs) (n :: needs)).sum + lo ≤ (List.zipWith _ (a :: ys) (n :: needs)).sum ∧ (List.zipWith _ (a :: ys) (n :: needs)).sum ≤ (List.zipWith _ (a :: xs) (n :: needs)).sum + hi
    rw [List.zipWith_cons_cons, List.zipWith_cons_cons, List.sum_cons, List.sum_cons]
    omega
theorem nodeC_btw {W : Nat → Nat → Int} {rus : List Rul} {r c : Nat} {xs ys : List (List Int)} {lo hi : Int} (hr : ∀ u ∈ rus, u.ok r) (hc : ∃ u, u ∈ rus ∧ u.c = c) (hl : xs.length = ar c) (h : One r lo hi xs ys) : Btw r lo hi (nodeC W rus r c xs) (nodeC W rus r c ys) := by
  intro g hg
  rw [nodeC_get hg, nodeC_get hg]
  have nx : ∀ zs, ((rus.filter fun u => u.c == c).map fun u => ruleC zs u + W u.room g) ≠ [] := fun zs e => filt_ne hc (List.map_eq_nil_iff.mp e)
  have one : ∀ u, u ∈ (rus.filter fun u => u.c == c) → ruleC xs u + lo ≤ ruleC ys u ∧ ruleC ys u ≤ ruleC xs u + hi := fun u hu => by
    obtain ⟨hu1, hu2⟩ := List.mem_filter.mp hu
    have hok := hr u hu1
    have huc : u.c = c := by simpa using hu2
    have := h.sum u.needs (by rw [hok.2.1, huc, hl]) hok.2.2.1
    unfold ruleC
    omega
  constructor
  · obtain ⟨u, hu, e⟩ := List.mem_map.mp (minI_mem (nx ys))
    have h1 := one u hu
    have h2 : minI ((rus.filter fun u => u.c == c).map fun u => ruleC xs u + W u.room g) ≤ ruleC xs u + W u.room g := minI_le (List.mem_map.mpr ⟨u, hu, rfl⟩)
    omega
  · obtain ⟨u, hu, e⟩ := List.mem_map.mp (minI_mem (nx xs))
    have h1 := one u hu
    have h2 : minI ((rus.filter fun u => u.c == c).map fun u => ruleC ys u + W u.room g) ≤ ruleC ys u + W u.room g := minI_le (List.mem_map.mpr ⟨u, hu, rfl⟩)
    omega
theorem one_up {W : Nat → Nat → Int} {rus : List Rul} {r : Nat} {lo hi : Int} (hr : ∀ u ∈ rus, u.ok r) : ∀ (pre : List Nat) (xs ys : List (List Int)) (v n : Nat), con v pre = some n → xs.length = n → (∀ c ∈ pre, ∃ u, u ∈ rus ∧ u.c = c) → One r lo hi xs ys →
    One r lo hi (pre.foldr (stepS (nodeC W rus r)) xs) (pre.foldr (stepS (nodeC W rus r)) ys) ∧ (pre.foldr (stepS (nodeC W rus r)) xs).length = v
  | [], xs, ys, v, n, h, hl, _, ho => by rw [con_nil] at h; cases h; exact ⟨ho, hl⟩
  | c :: pre, xs, ys, v, n, h, hl, hc, ho => by
    obtain ⟨u, rfl, _, h2⟩ := con_cons h
    obtain ⟨h3, h4⟩ := one_up hr pre xs ys _ n h2 hl (fun d hd => hc d (List.mem_cons_of_mem _ hd)) ho
    refine ⟨?_, by rw [List.foldr_cons]; show (_ :: _).length = _; rw [List.length_cons, List.length_drop, h4]; omega⟩
    rw [List.foldr_cons, List.foldr_cons]
    show One r lo hi (nodeC W rus r c (_ : List (List Int)) :: _) (nodeC W rus r c _ :: _)
    rcases h3.split (ar c) with ⟨h5, h6⟩ | ⟨h5, h6⟩
    · rw [h6]
      exact .here (nodeC_btw hr (hc c (List.mem_cons_self ..)) (by rw [List.length_take, h4]; omega) h5)
    · rw [h5]
      exact .there h6

/-! plain: the price of the way between two rooms -/
def dW (mv : List Mv) (i j : Nat) : Int := minI (((fromW mv (startW i)).filter fun p => goalW p.2.2 == j).map fun p => (p.1 : Int))
theorem ltW_le {p q : Way} (h : ltW q p = false) : p.1 ≤ q.1 := by
  unfold ltW at h
  by_cases e : q.1 = p.1
  · omega
  · rw [if_neg e] at h
    have := of_decide_eq_false h
    omega
theorem dW_best {mv : List Mv} {i j : Nat} {p : Way} (h1 : p ∈ fromW mv (startW i)) (h2 : goalW p.2.2 = j) (h3 : ∀ q, q ∈ fromW mv (startW i) → goalW q.2.2 = j → ltW q p = false) : dW mv i j = p.1 :=
  minI_eq (List.mem_map.mpr ⟨p, List.mem_filter.mpr ⟨h1, by simp [h2]⟩, rfl⟩) fun y hy => by
    obtain ⟨q, hq, rfl⟩ := List.mem_map.mp hy
    obtain ⟨a, b⟩ := List.mem_filter.mp hq
    have := ltW_le (h3 q a (by simpa using b))
    omega
theorem dW_le {mv : List Mv} {i j : Nat} {p : Way} (h1 : p ∈ fromW mv (startW i)) (h2 : goalW p.2.2 = j) : dW mv i j ≤ p.1 := minI_le (List.mem_map.mpr ⟨p, List.mem_filter.mpr ⟨h1, by simp [h2]⟩, rfl⟩)
theorem dW_at {r : Nat} {mv : List Mv} (hj : Joined r mv) {i j : Nat} (hi : i < r) (hj2 : j < r) : ∃ p, p ∈ fromW mv (startW i) ∧ goalW p.2.2 = j ∧ dW mv i j = p.1 := by
  obtain ⟨q, h1, h2⟩ := hj i j hi hj2
  have hne : (((fromW mv (startW i)).filter fun p => goalW p.2.2 == j).map fun p => (p.1 : Int)) ≠ [] := fun e => by
    have : q ∈ (fromW mv (startW i)).filter fun p => goalW p.2.2 == j := List.mem_filter.mpr ⟨h1, by simp [h2]⟩
    rw [List.map_eq_nil_iff.mp e] at this
    cases this
  obtain ⟨p, hp, e⟩ := List.mem_map.mp (minI_mem hne)
  obtain ⟨a, b⟩ := List.mem_filter.mp hp
  exact ⟨p, a, by simpa using b, e.symm⟩
/-- each room on a way was reached, not dearer -/
theorem allW_via {mv : List Mv} : ∀ (n : Nat) (p q : Way), q ∈ allW mv n p → p.1 ≤ q.1 ∧ ∀ x ∈ q.2.2, x ∈ p.2.2 ∨ ∃ q', q' ∈ allW mv n p ∧ goalW q'.2.2 = x ∧ q'.1 ≤ q.1
  | 0, p, q, h => by
    obtain rfl : q = p := List.mem_singleton.mp h
    exact ⟨Nat.le_refl _, fun x hx => .inl hx⟩
  | n + 1, p, q, h => by
    rcases List.mem_cons.mp (show q ∈ p :: (extW mv p).flatMap (allW mv n) from h) with rfl | h
    · exact ⟨Nat.le_refl _, fun x hx => .inl hx⟩
    · obtain ⟨p2, h1, h2⟩ := List.mem_flatMap.mp h
      obtain ⟨h3, h4⟩ := allW_via n p2 q h2
      unfold extW at h1
      obtain ⟨m, hm, rfl⟩ := List.mem_map.mp h1
      have up : ∀ q', q' ∈ allW mv n (onW p m) → q' ∈ allW mv (n + 1) p := fun q' hq' => List.mem_cons_of_mem _ (List.mem_flatMap.mpr ⟨onW p m, List.mem_map.mpr ⟨m, hm, rfl⟩, hq'⟩)
      have h5 : p.1 + m.2.2 ≤ q.1 := h3
      refine ⟨by omega, fun x hx => ?_⟩
      rcases h4 x hx with h6 | ⟨q', a, b, c⟩
      · rcases List.mem_append.mp (show x ∈ p.2.2 ++ [m.2.1] from h6) with h6 | h6
        · exact .inl h6
        · refine .inr ⟨onW p m, up _ (allW_self mv n _), ?_, h3⟩
          rw [List.mem_singleton.mp h6]
          show goalW (p.2.2 ++ [m.2.1]) = _
          exact goalW_app _ _
      · exact .inr ⟨q', up _ a, b, c⟩
theorem from_start (mv : List Mv) (i : Nat) : fromW mv (startW i) = allW mv 3 (startW i) := rfl
theorem allW_simple {mv : List Mv} {r : Nat} (hmv : ∀ m ∈ mv, m.2.1 < r) : ∀ (n : Nat) (p q : Way), Simple r p → q ∈ allW mv n p → Simple r q
  | 0, p, q, s, h => by rw [List.mem_singleton.mp h]; exact s
  | n + 1, p, q, s, h => by
    rcases List.mem_cons.mp (show q ∈ p :: (extW mv p).flatMap (allW mv n) from h) with rfl | h
    · exact s
    · obtain ⟨p2, h1, h2⟩ := List.mem_flatMap.mp h
      unfold extW at h1
      obtain ⟨m, hm, rfl⟩ := List.mem_map.mp h1
      obtain ⟨hm1, hm2⟩ := List.mem_filter.mp hm
      exact allW_simple hmv n _ q (s.ext (hmv m hm1) hm2) h2
theorem st_simple {r i : Nat} (h : i < r) : Simple r (startW i) := ⟨rfl, by simp [startW], fun x hx => by rw [List.mem_singleton.mp hx]; exact h, by simp [startW]⟩
theorem dW_relax {r : Nat} {mv : List Mv} (r4 : r ≤ 4) (ok : ∀ m ∈ mv, m.1 < r ∧ m.2.1 < r) (hj : Joined r mv) {i : Nat} (hi : i < r) {m : Mv} (hm : m ∈ mv) : dW mv i m.2.1 ≤ dW mv i m.1 + m.2.2 := by
  obtain ⟨p, h1, h2, h3⟩ := dW_at hj hi (ok m hm).1
  rw [h3]
  have hs := allW_simple (fun m hm => (ok m hm).2) 3 _ p (st_simple hi) h1
  by_cases hx : m.2.1 ∈ p.2.2
  · obtain ⟨_, h5⟩ := allW_via 3 _ p h1
    have : ∃ q', q' ∈ allW mv 3 (startW i) ∧ goalW q'.2.2 = m.2.1 ∧ q'.1 ≤ p.1 := by
      rcases h5 _ hx with h6 | h6
      · have e : m.2.1 = i := List.mem_singleton.mp h6
        exact ⟨startW i, allW_self mv 3 _, by rw [e]; rfl, Nat.zero_le _⟩
      · exact h6
    obtain ⟨q', a, b, c⟩ := this
    have := dW_le (mv := mv) (i := i) a b
    omega
  · have hlen : p.2.2.length < 4 := by
      have h6 := pigeon r (m.2.1 :: p.2.2) (List.nodup_cons.mpr ⟨hx, hs.nd⟩) fun x hx => by
        rcases List.mem_cons.mp hx with rfl | hx
        · exact (ok m hm).2
        · exact hs.lt x hx
      rw [List.length_cons] at h6
      omega
    have hg : goP p m = true := by unfold goP; rw [h2]; simp [hx]
    have := dW_le (mv := mv) (i := i) (allW_on hm 3 _ p h1 hg (by show p.2.2.length < 1 + 3; omega)) (show goalW (p.2.2 ++ [m.2.1]) = m.2.1 from goalW_app _ _)
    have e : (onW p m).1 = p.1 + m.2.2 := rfl
    rw [e] at this
    omega
theorem dW_along {r : Nat} {mv : List Mv} (r4 : r ≤ 4) (ok : ∀ m ∈ mv, m.1 < r ∧ m.2.1 < r) (hj : Joined r mv) {i : Nat} (hi : i < r) : ∀ (n : Nat) (p q : Way), q ∈ allW mv n p → dW mv i (goalW q.2.2) + p.1 ≤ dW mv i (goalW p.2.2) + q.1
  | 0, p, q, h => by rw [List.mem_singleton.mp h]; omega
  | n + 1, p, q, h => by
    rcases List.mem_cons.mp (show q ∈ p :: (extW mv p).flatMap (allW mv n) from h) with rfl | h
    · omega
    · obtain ⟨p2, h1, h2⟩ := List.mem_flatMap.mp h
      unfold extW at h1
      obtain ⟨m, hm, rfl⟩ := List.mem_map.mp h1
      obtain ⟨hm1, hm2⟩ := List.mem_filter.mp hm
      have h3 := dW_along r4 ok hj hi n _ q h2
      have e1 : goalW (onW p m).2.2 = m.2.1 := goalW_app _ _
      have e2 : (onW p m).1 = p.1 + m.2.2 := rfl
      have e3 : m.1 = goalW p.2.2 := by
        unfold goP at hm2
        rw [Bool.and_eq_true] at hm2
        exact of_decide_eq_true hm2.1
      have h4 := dW_relax r4 ok hj hi hm1
      rw [e1, e2] at h3
      rw [e3] at h4
      omega
theorem dW_tri {r : Nat} {mv : List Mv} (r4 : r ≤ 4) (ok : ∀ m ∈ mv, m.1 < r ∧ m.2.1 < r) (hj : Joined r mv) : TriW (dW mv) r := by
  refine ⟨fun i j k hi hj2 hk => ?_, fun i j hi hj2 => ?_, fun i hi => ?_⟩
  · obtain ⟨q, h1, h2, h3⟩ := dW_at hj hj2 hk
    have := dW_along r4 ok hj hi 3 _ q h1
    rw [h2] at this
    have e1 : goalW (startW j).2.2 = j := rfl
    have e2 : (startW j).1 = 0 := rfl
    rw [e1, e2] at this
    omega
  · obtain ⟨q, h1, h2, h3⟩ := dW_at hj hi hj2
    omega
  · have h1 := dW_le (mv := mv) (i := i) (allW_self mv 3 (startW i)) (show goalW (startW i).2.2 = i from rfl)
    obtain ⟨q, h2, h3, h4⟩ := dW_at hj hi hi
    have e2 : (startW i).1 = 0 := rfl
    rw [e2] at h1
    omega

/-! Chooser.__init__ where it raises -/
def spInitX (K : PySem.W.Frag) (CC CRo CTm CR CM : Addr) : Sp := fun vs H Q E => ∃ (a dx rl ml : Addr) (r : Int) (Hb : Hp) (rxs mxs : List V) (yss : List (List V)) (b0 : Bool), vs = [.ref a, .int r, .ref rl, .ref ml] ∧ H = upd (upd Hb dx (.own a)) a (.ins CC dx []) ∧ Hb a = none ∧ Hb dx = none ∧ dx ≠ a ∧
  SqL K Hb rl rxs ∧ Paired (RuleT Hb) rxs yss ∧ rxs.length ≤ 1000 ∧ SqB K b0 Hb ml mxs ∧ mxs.length ≤ 1000 ∧ (¬ (1 ≤ r ∧ r ≤ 4) → Out E Hb CRo "InvalidRooms" "given" (.int r)) ∧
  (1 ≤ r → r ≤ 4 → (24 < rxs.length → Out E Hb CTm "TooMany" "limit" (.int 24)) ∧ (rxs.length ≤ 24 → (∀ i ys, yss[i]? = some ys → ruleV Hb r ys = false → (∀ j z, j < i → yss[j]? = some z → ruleV Hb r z = true) → Out E Hb CR "InvalidRule" "index" (.int (i : Nat))) ∧
    ((∀ ys ∈ yss, ruleV Hb r ys = true) → (12 < mxs.length → Out E Hb CTm "TooMany" "limit" (.int 12)) ∧ (mxs.length ≤ 12 → ∃ (zss : List (List V)) (i : Nat), Paired (MoveT Hb) mxs zss ∧ badM r [] 0 zss = some i ∧ Out E Hb CM "InvalidMove" "index" (.int i)))))
def rchB (mv : List Mv) (i j : Nat) : Bool := (fromW mv (startW i)).any fun p => decide (goalW p.2.2 = j)
theorem dw_rch {H : Hp} {kvs : List (Key × V)} {B : Nat → Option Way} {mv : List Mv} {i j : Nat} (h : DW H kvs B) (b : Best (fun p => p ∈ fromW mv (startW i)) B) : (valV kvs (.inl (j : Int))).isSome = rchB mv i j := by
  have hj := h j
  have bj := b j
  cases e : B j with
  | none =>
    rw [e] at hj bj
    have hj : valV kvs (.inl (j : Int)) = none := hj
    have bj : ∀ p, p ∈ fromW mv (startW i) → goalW p.2.2 ≠ j := bj
    rw [hj]
    refine Eq.symm (List.any_eq_false.mpr fun p hp => ?_)
    simpa using bj p hp
  | some q =>
    rw [e] at hj bj
    obtain ⟨v, hv, _⟩ := hj
    have bj : q ∈ fromW mv (startW i) ∧ goalW q.2.2 = j ∧ _ := bj
    rw [hv]
    exact (List.any_eq_true.mpr ⟨q, bj.1, decide_eq_true bj.2.1⟩).symm
def spInitU (K : PySem.W.Frag) (CC CU : Addr) : Sp := fun vs H Q E => ∃ (a dx rl ml : Addr) (r : Nat) (Hb : Hp) (rxs mxs : List V) (rus : List Rul) (mv : List Mv) (b0 : Bool) (j : Nat), vs = [.ref a, .int r, .ref rl, .ref ml] ∧ H = upd (upd Hb dx (.own a)) a (.ins CC dx []) ∧ Hb a = none ∧ Hb dx = none ∧ dx ≠ a ∧ 1 ≤ r ∧ r ≤ 4 ∧
  SqL K Hb rl rxs ∧ Paired (Rt Hb) rxs rus ∧ rus.length ≤ 24 ∧ (∀ u ∈ rus, u.ok r) ∧ SqB K b0 Hb ml mxs ∧ Paired (Mt Hb) mxs mv ∧ MvOk r mv ∧ j < r ∧ (rchB mv 0 j = false ∨ rchB mv j 0 = false) ∧ Out E Hb CU "Unjoined" "room" (.int 0)
section
variable {P : Program} {w : World} {K : PySem.W.Frag} {mg : Str → Option Value} {base : Heap}
theorem ok_initX {CC CRo CTm CR CM : Addr} {kws : List (Str × V)} {f : Addr} {fd : FuncData} (F : FunD K "__init__" "Chooser.__init__" (defArgs s_Chooser___init__) (defBody s_Chooser___init__) (defScope s_Chooser___init__) [] kws f fd) (ck : ChK K mg CC) (mL : mg "len" = none)
    (xRo : ExK P w K mg base "InvalidRooms" CRo (fs1 "InvalidRooms" "given")) (xT : ExK P w K mg base "TooMany" CTm (fs1 "TooMany" "limit")) (cRu : Cal P w K mg base (L2.CX P w) "check_rules" 4 2 (spCkRules K CR)) (cMo : Cal P w K mg base (L2.CX P w) "check_moves" 4 2 (spCkMoves K CM)) :
    FnOk P w K mg base (L2.CX P w) 5 f fd P_Chooser___init__ (spInitX K CC CRo CTm CR CM) := by
  refine fn_okRM F sc_Chooser___init__ (fun vs H Q E ⟨a, _, _, _, _, _, _, _, _, _, h, _⟩ => by rw [h]; rfl) fun X vs H Q E C hfn tk hcd hql ⟨a, dx, rl, ml, r, Hb, rxs, mxs, yss, b0, hv, hH, na, ndx, dxa, hrl, hru, hrn, hml, hmn, hA, hB⟩ => ?_
  subst hv
  have eb : Ex Hb H := by rw [hH]; exact Xb.ex (Evl.Ex.new ndx) na .upd
  have g1 := ck.c1
  have g2 := ck.c2
  have g3 := ck.c3
  have gC := ck.gl
  have n_self : Nm X "self" 0 := C.nm rfl (by decide +kernel)
  have n_rooms : Nm X "rooms" 1 := C.nm rfl (by decide +kernel)
  have n_rules : Nm X "rules" 2 := C.nm rfl (by decide +kernel)
  have n_moves : Nm X "moves" 3 := C.nm rfl (by decide +kernel)
  refine b_cons ?_
  kpc_turns
  have hrl2 : SqL X.K H rl rxs := by rw [C.frg]; exact ex_l eb hrl
  have hml2 : SqB X.K b0 H ml mxs := by rw [C.frg]; exact hml.ex eb
  refine if_d (fun h1 => ?_) fun h1 => ?_
  rotate_left
  · kpc_turns
    refine s_raise C xRo tk (by decide) ?_
    kpc_turns
    exact fun d nd => hA (fun h => h1 h.1) d _ (eb.trans (Evl.Ex.new nd)) upd_same
  kpc_turns
  refine ⟨_, rfl, if_nd (fun h2 => ?_) fun h2 => ?_⟩
  · kpc_turns
    refine s_raise C xRo tk (by decide) ?_
    kpc_turns
    exact fun d nd => hA (fun h => h2 h.2) d _ (eb.trans (Evl.Ex.new nd)) upd_same
  obtain ⟨hB1, hB2⟩ := hB h1 h2
  kpc_turns
  refine if_d (fun h3 => ?_) fun h3 => ?_
  · kpc_turns
    refine s_raise C xT tk (by decide) ?_
    kpc_turns
    exact fun d nd => hB1 (by omega) d _ (eb.trans (Evl.Ex.new nd)) upd_same
  obtain ⟨hR, hB3⟩ := hB2 (by omega)
  have hru2 := paired_imp (fun _ _ h => RuleT.ex h eb) hru
  have rv : ∀ ys ∈ yss, ruleV H r ys = ruleV Hb r ys := fun ys hy => by
    obtain ⟨i, hi⟩ := List.getElem?_of_mem hy
    have hlen := paired_len hru
    have hil := (List.getElem?_eq_some_iff.mp hi).1
    obtain ⟨y2, hy2, hr2⟩ := paired_get hru i _ (List.getElem?_eq_getElem (by omega : i < rxs.length))
    rw [hi] at hy2
    cases hy2
    exact ruleV_ex hr2 eb
  kpc_turns
  refine ⟨r, rl, rxs, yss, rfl, by rw [← C.frg]; exact hrl2, by omega, hru2, fun hall H1 e1 => ?_, fun i ys hi hf hb d H' e hd => hR i ys hi (by rw [← rv ys (List.mem_of_getElem? hi)]; exact hf) (fun j z hj hz => by rw [← rv z (List.mem_of_getElem? hz)]; exact hb j z hj hz) d H' (eb.trans e) hd⟩
  obtain ⟨hM1, hM2⟩ := hB3 fun ys hy => by rw [← rv ys hy]; exact hall ys hy
  have eb1 := eb.trans e1
  have hml3 := hml2.ex e1
  kpc_turns
  refine c_lenB hml3 ?_
  kpc_turns
  refine if_d (fun h4 => ?_) fun h4 => ?_
  · kpc_turns
    refine s_raise C xT tk (by decide) ?_
    kpc_turns
    exact fun d nd => hM1 (by omega) d _ (eb1.trans (Evl.Ex.new nd)) upd_same
  obtain ⟨zss, i, hz1, hz2, hz3⟩ := hM2 (by omega)
  kpc_turns
  refine ⟨r, ml, mxs, zss, b0, rfl, by rw [← C.frg]; exact hml3, by omega, paired_imp (fun _ _ h => h.ex eb1) hz1, fun hn => ?_, fun i' hi d H' e hd => ?_⟩
  · rw [hz2] at hn
    cases hn
  · rw [hz2] at hi
    cases hi
    exact hz3 d H' (eb1.trans e) hd
theorem ok_initU {CC CR CM CU : Addr} {kws : List (Str × V)} {f : Addr} {fd : FuncData} (F : FunD K "__init__" "Chooser.__init__" (defArgs s_Chooser___init__) (defBody s_Chooser___init__) (defScope s_Chooser___init__) [] kws f fd) (ck : ChK K mg CC) (mL : mg "len" = none) (mR : mg "range" = none)
    (cRu : Cal P w K mg base (L2.CX P w) "check_rules" 4 2 (spCkRules K CR)) (cMo : Cal P w K mg base (L2.CX P w) "check_moves" 4 2 (spCkMoves K CM)) (cJo : Cal P w K mg base (L2.CX P w) "check_joined" 3 2 (spCkJoined CU)) (cW : Cal P w K mg base CX0 "first_ways" 1 2 (spWays K)) :
    FnOk P w K mg base (L2.CX P w) 5 f fd P_Chooser___init__ (spInitU K CC CU) := by
  refine fn_okRM F sc_Chooser___init__ (fun vs H Q E ⟨a, _, _, _, _, _, _, _, _, _, _, _, h, _⟩ => by rw [h]; rfl) fun X vs H Q E C hfn tk hcd hql ⟨a, dx, rl, ml, r, Hb, rxs, mxs, rus, mv, b0, j0, hv, hH, na, ndx, dxa, r1, r4, hrl, hru, hr24, hok, hml, hmv, hmo, hj0, hun, ho⟩ => ?_
  subst hv
  have eb : Ex Hb H := by rw [hH]; exact Xb.ex (Evl.Ex.new ndx) na .upd
  have ha : H a = some (.ins CC dx []) := by rw [hH]; exact upd_same
  have g1 := ck.c1
  have g2 := ck.c2
  have g3 := ck.c3
  have gC := ck.gl
  have n_self : Nm X "self" 0 := C.nm rfl (by decide +kernel)
  have n_rooms : Nm X "rooms" 1 := C.nm rfl (by decide +kernel)
  have n_rules : Nm X "rules" 2 := C.nm rfl (by decide +kernel)
  have n_moves : Nm X "moves" 3 := C.nm rfl (by decide +kernel)
  refine b_cons ?_
  kpc_turns
  refine if_d (fun _ => ?_) fun h => absurd (by omega) h
  kpc_turns
  refine ⟨_, rfl, if_nd (fun h => absurd (by omega) h) fun _ => ?_⟩
  have hrl2 : SqL X.K H rl rxs := by rw [C.frg]; exact ex_l eb hrl
  have hml2 : SqB X.K b0 H ml mxs := by rw [C.frg]; exact hml.ex eb
  have lrx : rxs.length ≤ 24 := by rw [paired_len hru]; exact hr24
  have lmx : mxs.length ≤ 12 := by rw [paired_len hmv]; exact hmo.len
  kpc_turns
  refine if_d (fun h => absurd h (by omega)) fun _ => ?_
  kpc_turns
  obtain ⟨yss, hys1, hys3⟩ := rules_paired hru hok eb
  refine ⟨r, rl, rxs, yss, rfl, by rw [← C.frg]; exact hrl2, by omega, hys1, fun _ H1 e1 => ?_, fun i ys hi hf _ => by rw [hys3 ys (List.mem_of_getElem? hi)] at hf; cases hf⟩
  have hml3 := hml2.ex e1
  kpc_turns
  refine c_lenB hml3 ?_
  kpc_turns
  refine if_d (fun h => absurd h (by omega)) fun _ => ?_
  kpc_turns
  have eb1 := eb.trans e1
  have hbad : badM r [] 0 (mv.map mvL) = none := badM_ok hmo.ok hmo.nd fun _ _ z => by cases z
  have hmm := moves_paired hmv
  refine ⟨r, ml, mxs, mv.map mvL, b0, rfl, by rw [← C.frg]; exact hml3, lmx, paired_imp (fun _ _ h => h.ex eb1) hmm, fun _ H2 e2 => ?_, fun i hi => by rw [hbad] at hi; cases hi⟩
  have ha2 := e2 _ _ (e1 _ _ ha)
  have eb2 := eb1.trans e2
  refine b_cons (s_fld ?_)
  refine e_lc (own := [("room", 4)]) C (by decide +kernel) (i_range1 (C.gl (by decide +kernel)) (by rw [C.mgl]; exact mR) ?_)
  kpc_turns
  refine ⟨by omega, by omega, _, _, _, _, walk_range 0 _, comp_mapH (j := 4) C (fun i y H => ∃ d, y = V.ref d ∧ ∃ kvs B, H d = some (.dK kvs) ∧ DW H kvs B ∧ Best (fun p => p ∈ fromW mv (startW i)) B) (fun i y H H' e ⟨d, h1, kvs, B, h2, h3, h4⟩ => ⟨d, h1, kvs, B, e _ _ h2, h3.tk (TK.ex e), h4⟩) (by omega) (fun _ _ => trivial) rfl (by decide +kernel) (fun _ => rfl) ?_, ?_⟩
  · intro i v H' hi e3 hv X1 C1
    have hv : v = .int (i : Nat) := by rw [hv, Int.zero_add]
    subst hv
    have n_moves : Nm X1 "moves" 3 := C1.nm rfl (by decide +kernel)
    have n_room : Nm X1 "room" 4 := C1.nm rfl (by decide +kernel)
    have w_room : Ns X1 "room" 4 := C1.ns rfl (by decide +kernel) (.inr (by decide +kernel))
    kpc_turns
    refine ⟨i, r, ml, mxs, mv, rfl, (SqB.or (b := b0) (by rw [← C.frg]; exact hml3.ex (e2.trans e3))), paired_imp (fun _ _ h => h.tk (TK.ex (eb2.trans e3))) hmv, by omega, r4, hmo.len, fun m hm => (hmo.ok m hm).2.1, fun d H4 kvs B nd e4 hd hD hB => ⟨e4, fun D ys hD4 nD _ => ⟨d, rfl, kvs, B, del_at hd (fun z => by rw [z, hD4] at hd; cases hd), hD.tk (fun b xs h => del_at h (fun z => by rw [z, hD4] at h; cases h)), hB⟩⟩⟩
  · intro wl ys H3 nwl e3 hwl ⟨hlen, hR⟩
    obtain ⟨ds, rfl, hds⟩ := refs_of ys hR
    rw [List.length_map] at hlen
    have eb3 := eb2.trans e3
    have ha3 := e3 _ _ ha2
    have hR3 : WaysAt H3 mv ds := fun i d hi => by
      obtain ⟨kvs, B, q1, q2, q3⟩ := hds i d hi
      exact ⟨kvs, B, ex_del _ _ q1, q2.tk (TK.ex ex_del), q3⟩
    kpc_turns
    refine ⟨a, CC, dx, [], rfl, ha3, by rw [C.frg]; exact ck.cl, by rw [C.frg]; exact ck.na _ (by decide), by show 0 < 1000; decide, ?_⟩
    obtain ⟨H4, hH4⟩ : ∃ H4, upd H3 a (.ins CC dx (putF "ways" (.ref wl) [])) = H4 := ⟨_, rfl⟩
    have k34 : KP H3 H4 := by rw [← hH4]; exact KP.ins ha3
    have eb4 : Ex Hb H4 := by rw [← hH4]; exact Xb.ex eb3 na .upd
    have ha4 : H4 a = some (.ins CC dx (putF "ways" (.ref wl) [])) := by rw [← hH4]; exact upd_same
    rw [hH4]
    have hwl4 := k34.l _ _ hwl
    have hR4 := hR3.kp k34
    kpc_turns
    refine e_fld (e_name n_self rfl ⟨a, CC, dx, _, .ref wl, rfl, ha4, by rw [C.frg]; exact ck.cl, by rw [C.frg]; exact ck.na _ (by decide), rfl, ?_⟩)
    refine a_nil ⟨r, wl, ds, rchB mv, rfl, by omega, hwl4, by omega, fun i d hi => ?_, fun hall => ?_, fun i j hi hj hb hbef d H' e hd => ?_⟩
    · obtain ⟨kvs, B, q1, q2, q3⟩ := hR4 i d hi
      exact ⟨kvs, q1, fun j hj2 => dw_rch q2 q3⟩
    · rcases hun with h | h
      · rw [hall 0 j0 (by omega) hj0] at h
        cases h
      · rw [hall j0 0 hj0 (by omega)] at h
        cases h
    · obtain rfl : i = 0 := by
        by_cases h0 : i = 0
        · exact h0
        · exfalso
          obtain ⟨h1, h2⟩ := hbef 0 j0 (by omega) hj0
          rcases hun with h | h
          · rw [h1] at h
            cases h
          · rw [h2] at h
            cases h
      exact ho d H' (eb4.trans e) hd
end

/-! what is refused: the law's try with its clauses -/
abbrev s_law_refused : Stmt := topS 77
abbrev N_law_refused : List Str := ["_law_ask", "_law_told", "e"]
abbrev P_law_refused : List Str := ["_law_ask"]
theorem sc_law_refused : FnScope N_law_refused P_law_refused (defScope s_law_refused) := ⟨rfl, rfl, rfl, by decide +kernel, rfl, by decide +kernel, by decide +kernel⟩

/-- the clauses: their classes, the field that each reads -/
def errTab : List (List Str × Option Str) := [(["InvalidTree", "InvalidRule", "InvalidMove", "UnknownLetter", "InvalidRow"], some "index"), (["InvalidRooms", "InvalidNumber"], some "given"), (["TooMany", "TooWide", "TooLong", "CapacityExceeded"], some "limit"), (["InvalidName", "DuplicateName", "WrongKind", "InUse", "UnknownName"], some "name"), (["InvalidContext", "NoLeaf", "NothingLeft"], none), (["Unjoined"], some "room"), (["UnlikeLetters"], some "letter"), (["Unlike"], some "tree"), (["Boundless"], some "gain"), (["InvalidCommand"], some "first"), (["ParseError"], some "line")]
def errNames : List Str := ["InvalidTree", "InvalidRule", "InvalidMove", "UnknownLetter", "InvalidRow", "InvalidRooms", "InvalidNumber", "TooMany", "TooWide", "TooLong", "CapacityExceeded", "InvalidName", "DuplicateName", "WrongKind", "InUse", "UnknownName", "InvalidContext", "NoLeaf", "NothingLeft", "Unjoined", "UnlikeLetters", "Unlike", "Boundless", "InvalidCommand", "ParseError"]
def tsF (K : PySem.W.Frag) (f : Str) : Addr → Value → Option Addr → TS := fun a cls d D σ H => ∃ CA dd fs tv v, cls = .ref CA ∧ d = some dd ∧ XfC K CA ∧ PySem.W.findIn K (.ref CA) "tag" = some none ∧ PySem.W.findIn K (.ref CA) f = some none ∧ H dd = some (.xd fs) ∧
  fs.lookup ("tag" : Str) = some tv ∧ fs.lookup f = some v ∧ σ[2]? = some (some (.ref a)) ∧ ∀ T H1, H T = none → Ex H H1 → H1 T = some (.tup [tv, v]) → D.nx (σ.set 1 (some (.ref T))) H1
def tsN (K : PySem.W.Frag) : Addr → Value → Option Addr → TS := fun a cls d D σ H => ∃ CA dd fs tv, cls = .ref CA ∧ d = some dd ∧ XfC K CA ∧ PySem.W.findIn K (.ref CA) "tag" = some none ∧ H dd = some (.xd fs) ∧
  fs.lookup ("tag" : Str) = some tv ∧ σ[2]? = some (some (.ref a)) ∧ ∀ T H1, H T = none → Ex H H1 → H1 T = some (.tup [tv, .non]) → D.nx (σ.set 1 (some (.ref T))) H1
section
variable {X : Cx} {p1 p2 p3 p4 p5 p6 p7 : Pos} {kk jj : Nat} {f : Str}
theorem suiteF {xe : Str} (n : Ns X "_law_told" 1) (ne : Nm X xe 2) (a : Addr) (oe : Obj) (cls : Value) (d : Option Addr) (pn : List (Addr × Obj)) (hz : Zc cls d oe) (hf : ∃ vs, oe.data = .fields vs) (hx1 : (xe == ("__debug__" : Str)) = false := by decide) (hx2 : (xe == ("__classdict__" : Str)) = false := by decide) :
    PSs (X.suite a ((a, oe) :: pn)) [.Assign [.Name "_law_told" p1] (.Tuple [.Attribute (.Name xe p2) "tag" p3, .Attribute (.Name xe p4) f p5] kk p6) p7] (tsF X.K f a cls d) := ⟨fun pins s σ H D I h => by
  obtain ⟨CA, dd, fs, tv, v, rfl, rfl, T, n1, n2, hd, l1, l2, hs, hq⟩ := h
  have m : Nm (X.suite a ((a, oe) :: pn)) xe 2 := ⟨ne.ix, ne.vis⟩
  have st : Ns (X.suite a ((a, oe) :: pn)) "_law_told" 1 := ⟨n.nd, n.ix, n.loc, n.fn⟩
  refine (zB_ok _).run pins s σ H D I (b_one (s_set st (n_tup ?_)))
  refine a_cons (e_xf T n1 hz hf (e_name m hs ⟨rfl, rfl, dd, fs, tv, rfl, hd, l1, ?_⟩ hx1 hx2))
  refine a_cons (e_xf T n2 hz hf (e_name m hs ⟨rfl, rfl, dd, fs, v, rfl, hd, l2, ?_⟩ hx1 hx2))
  exact a_nil ⟨by show 2 ≤ sizeLine; decide, fun p H' np e hp => hq p H' np e hp⟩⟩
theorem suiteN {xe : Str} (n : Ns X "_law_told" 1) (ne : Nm X xe 2) (a : Addr) (oe : Obj) (cls : Value) (d : Option Addr) (pn : List (Addr × Obj)) (hz : Zc cls d oe) (hf : ∃ vs, oe.data = .fields vs) (hx1 : (xe == ("__debug__" : Str)) = false := by decide) (hx2 : (xe == ("__classdict__" : Str)) = false := by decide) :
    PSs (X.suite a ((a, oe) :: pn)) [.Assign [.Name "_law_told" p1] (.Tuple [.Attribute (.Name xe p2) "tag" p3, .Constant .none jj p5] kk p6) p7] (tsN X.K a cls d) := ⟨fun pins s σ H D I h => by
  obtain ⟨CA, dd, fs, tv, rfl, rfl, T, n1, hd, l1, hs, hq⟩ := h
  have m : Nm (X.suite a ((a, oe) :: pn)) xe 2 := ⟨ne.ix, ne.vis⟩
  have st : Ns (X.suite a ((a, oe) :: pn)) "_law_told" 1 := ⟨n.nd, n.ix, n.loc, n.fn⟩
  refine (zB_ok _).run pins s σ H D I (b_one (s_set st (n_tup ?_)))
  refine a_cons (e_xf T n1 hz hf (e_name m hs ⟨rfl, rfl, dd, fs, tv, rfl, hd, l1, ?_⟩ hx1 hx2))
  refine a_cons (e_non ?_)
  exact a_nil ⟨by show 2 ≤ sizeLine; decide, fun p H' np e hp => hq p H' np e hp⟩⟩
end
def clOf (K : PySem.W.Frag) (cl : Str → Addr) (q : List Str × Option Str) : Cl := (q.1.map fun x => .ref (cl x), match q.2 with | some f => tsF K f | none => tsN K)
/-- the class at CA is caught by the j-th clause, which reads the field f -/
structure Caught (K : PySem.W.Frag) (cl : Str → Addr) (CA : Addr) (j : Nat) (f : Option Str) : Prop where
  xf : XfC K CA
  tag : PySem.W.findIn K (.ref CA) "tag" = some none
  fld : ∀ x, f = some x → PySem.W.findIn K (.ref CA) x = some none
  at_ : ∃ q, errTab[j]? = some q ∧ q.2 = f ∧ PySem.W.exmAny K (.ref CA) (q.1.map fun x => .ref (cl x)) = some true
  not_ : ∀ i q, i < j → errTab[i]? = some q → PySem.W.exmAny K (.ref CA) (q.1.map fun x => .ref (cl x)) = some false
/-- the errors that are told, and what is told of them -/
def RefE (K : PySem.W.Frag) (cl : Str → Addr) (R : V → V → Hp → Prop) : XK := fun cls d H => ∃ CA dd fs j f tv v, cls = .ref CA ∧ d = some dd ∧ Caught K cl CA j f ∧ H dd = some (.xd fs) ∧ fs.lookup ("tag" : Str) = some tv ∧ (match f with | some x => fs.lookup x = some v | none => v = .non) ∧ R tv v H
def TRef (K : PySem.W.Frag) (cl : Str → Addr) : (XK → Hp → VK → Prop) → Hp → VK → Prop := fun tl H Q => ∀ T0 H0, H T0 = none → Ex H H0 → H0 T0 = some (.tup [.str "", .non]) → ∀ (E' : XK) (Q' : VK), (∀ v H1, Q (.ref T0) H1 → Q' v H1) →
  (∀ cls d H1, RefE K cl (fun tv v H1 => ∀ T H2, H1 T = none → Ex H1 H2 → H2 T = some (.tup [tv, v]) → Q (.ref T) H2) cls d H1 → E' cls d H1) → tl E' H0 Q'
theorem wishes_at {K : PySem.W.Frag} {i : Nat} {Wout : WX} {D : Ends} {cls : Value} {d : Option Addr} {σ : St} {H : Hp} : ∀ {l : List Cl} {j : Nat} {c : Cl}, l[j]? = some c → (∀ i' c', i' < j → l[i']? = some c' → PySem.W.exmAny K cls c'.1 = some false) → PySem.W.exmAny K cls c.1 = some true →
    (∀ a, H a = none → c.2 a cls d (offs i D) (σ.set i (some (.ref a))) H) → wishes K i Wout D l cls d σ H
  | [], j, c, h, _, _, _ => by cases h
  | c0 :: l, 0, c, h, _, h1, h2 => by
    have h : some c0 = some c := h
    cases h
    exact ⟨true, h1, fun _ => h2, fun z => by cases z⟩
  | c0 :: l, j + 1, c, h, h0, h1, h2 => ⟨false, h0 0 c0 (Nat.succ_pos j) rfl, fun z => by (cases z), fun _ => wishes_at (j := j) h (fun i' c' hi hc => h0 (i' + 1) c' (by omega) hc) h1 h2⟩
section
variable {P : Program} {w : World} {K : PySem.W.Frag} {mg : Str → Option Value} {base : Heap}
theorem gets_refused {cl : Str → Addr} {g : Addr} {fd : FuncData} {j : Nat} (F : FnP K "_law_refused" s_law_refused g fd) (gm : mg "_law_refused" = some (.ref g)) (gE : ∀ x ∈ errNames, mg x = some (.ref (cl x))) : Gets P w K mg base "_law_refused" j (TRef K cl) := by
  refine ⟨g, fd, defArgs s_law_refused, defBody s_law_refused, defScope s_law_refused, "_law_ask", N_law_refused, F, gm, F.bindsN fun _ _ _ _ _ _ us hl => (match us, hl with | [_], _ => rfl), sc_law_refused, rfl, .inl (by decide +kernel), by decide, by decide, ?_⟩
  rintro X0 rfl rfl rfl rfl rfl hr cdv q f c' s H Q tl act hc h
  refine ⟨zBt _ _, zB_ok _, ?_⟩
  show zB (cxOf C8.CX0 X0.prog X0.w X0.K X0.mg X0.base N_law_refused "_law_refused" (defScope s_law_refused) g cdv X0.A X0.stack s H C8.E0).nox _ _ _ _ _ _ _
  obtain ⟨X, hX⟩ : ∃ X, X = (cxOf C8.CX0 X0.prog X0.w X0.K X0.mg X0.base N_law_refused "_law_refused" (defScope s_law_refused) g cdv X0.A X0.stack s H C8.E0).nox := ⟨_, rfl⟩
  have C : Ctx X X0.prog X0.w X0.K X0.mg X0.base N_law_refused (defScope s_law_refused) j := by rw [hX]; exact ⟨rfl, rfl, rfl, rfl, rfl, rfl, rfl, rfl, hr.deeper _, PassesOwn.never, sc_law_refused.nd⟩
  have hfn : ∀ y, X.fn y = true := by rw [hX]; exact fun _ => rfl
  have hst : X.stack = X.env :: X.outer := by rw [hX]; rfl
  have hfr : X.env.frame = some X.env.locals := by rw [hX]; rfl
  have act' : ∀ (W : WX) (pn : List (Addr × Obj)) (xe : Value → Shared → Prop) (E : XK) (p1 p2 : Pos), Takes (X.tr pn xe) W → (∀ cls d σ' H', E cls d H' → W cls d σ' H') →
      PE (X.tr pn xe) (.Call (.Name "_law_ask" p1) [] [] p2) (fun σZ HZ Q => σZ[0]? = some (some (.ref f)) ∧ HZ c' = some (LamX.CodeO c' q) ∧ tl E HZ Q) := by rw [hX]; exact act
  rw [← hX]
  clear act
  have n_ask : Nm X "_law_ask" 0 := C.nm rfl (by decide +kernel)
  have n_told : Nm X "_law_told" 1 := C.nm rfl (by decide +kernel)
  have n_e : Nm X "e" 2 := C.nm rfl (by decide +kernel)
  have w_told : Ns X "_law_told" 1 := C.ns rfl (by decide +kernel) (.inl (hfn _))
  have w_e : Ns X "e" 2 := C.ns rfl (by decide +kernel) (.inl (hfn _))
  refine b_cons (s_set w_told (n_tup ?_))
  refine a_cons (e_str (a_cons (e_non (a_nil ⟨by show 2 ≤ sizeLine; decide, fun T0 H0 nT e0 hT => ?_⟩))))
  have K0 : X.K = X0.K := C.frg
  have gE' : ∀ x ∈ errNames, X.mg x = some (.ref (cl x)) := fun x hx => by rw [C.mgl]; exact gE x hx
  refine b_cons (zS_of (ps_catch (i := 2) (n := _) (l := errTab.map (clOf X.K cl)) hst hfr (by rw [C.nms]; exact C.nd) (by rw [C.nms]; rfl) (C.lcl (by decide +kernel)) L2.takes0
    (tb := fun W D σ H' => ∃ Ech : XK, (∀ cls d σ' H', σ'.length = X.N.length → Ech cls d H' → W cls d σ' H') ∧ σ[0]? = some (some (.ref f)) ∧ H' c' = some (LamX.CodeO c' q) ∧ tl Ech H' fun _ H1 => D.nx σ H1)
    (fun W pn xe tkW own => ?_) (.cons (test_tup (.cons ⟨C.gl (by decide +kernel), by decide, .inl (gE' "InvalidTree" (by decide))⟩ rfl (.cons ⟨C.gl (by decide +kernel), by decide, .inl (gE' "InvalidRule" (by decide))⟩ rfl (.cons ⟨C.gl (by decide +kernel), by decide, .inl (gE' "InvalidMove" (by decide))⟩ rfl (.cons ⟨C.gl (by decide +kernel), by decide, .inl (gE' "UnknownLetter" (by decide))⟩ rfl (.cons ⟨C.gl (by decide +kernel), by decide, .inl (gE' "InvalidRow" (by decide))⟩ rfl (.nil)))))) (by show 5 ≤ sizeLine; decide)) (suiteF w_told n_e) (.cons (test_tup (.cons ⟨C.gl (by decide +kernel), by decide, .inl (gE' "InvalidRooms" (by decide))⟩ rfl (.cons ⟨C.gl (by decide +kernel), by decide, .inl (gE' "InvalidNumber" (by decide))⟩ rfl (.nil))) (by show 2 ≤ sizeLine; decide)) (suiteF w_told n_e) (.cons (test_tup (.cons ⟨C.gl (by decide +kernel), by decide, .inl (gE' "TooMany" (by decide))⟩ rfl (.cons ⟨C.gl (by decide +kernel), by decide, .inl (gE' "TooWide" (by decide))⟩ rfl (.cons ⟨C.gl (by decide +kernel), by decide, .inl (gE' "TooLong" (by decide))⟩ rfl (.cons ⟨C.gl (by decide +kernel), by decide, .inl (gE' "CapacityExceeded" (by decide))⟩ rfl (.nil))))) (by show 4 ≤ sizeLine; decide)) (suiteF w_told n_e) (.cons (test_tup (.cons ⟨C.gl (by decide +kernel), by decide, .inl (gE' "InvalidName" (by decide))⟩ rfl (.cons ⟨C.gl (by decide +kernel), by decide, .inl (gE' "DuplicateName" (by decide))⟩ rfl (.cons ⟨C.gl (by decide +kernel), by decide, .inl (gE' "WrongKind" (by decide))⟩ rfl (.cons ⟨C.gl (by decide +kernel), by decide, .inl (gE' "InUse" (by decide))⟩ rfl (.cons ⟨C.gl (by decide +kernel), by decide, .inl (gE' "UnknownName" (by decide))⟩ rfl (.nil)))))) (by show 5 ≤ sizeLine; decide)) (suiteF w_told n_e) (.cons (test_tup (.cons ⟨C.gl (by decide +kernel), by decide, .inl (gE' "InvalidContext" (by decide))⟩ rfl (.cons ⟨C.gl (by decide +kernel), by decide, .inl (gE' "NoLeaf" (by decide))⟩ rfl (.cons ⟨C.gl (by decide +kernel), by decide, .inl (gE' "NothingLeft" (by decide))⟩ rfl (.nil)))) (by show 3 ≤ sizeLine; decide)) (suiteN w_told n_e) (.cons (test_one ⟨C.gl (by decide +kernel), by decide, .inl (gE' "Unjoined" (by decide))⟩) (suiteF w_told n_e) (.cons (test_one ⟨C.gl (by decide +kernel), by decide, .inl (gE' "UnlikeLetters" (by decide))⟩) (suiteF w_told n_e) (.cons (test_one ⟨C.gl (by decide +kernel), by decide, .inl (gE' "Unlike" (by decide))⟩) (suiteF w_told n_e) (.cons (test_one ⟨C.gl (by decide +kernel), by decide, .inl (gE' "Boundless" (by decide))⟩) (suiteF w_told n_e) (.cons (test_one ⟨C.gl (by decide +kernel), by decide, .inl (gE' "InvalidCommand" (by decide))⟩) (suiteF w_told n_e) (.cons (test_one ⟨C.gl (by decide +kernel), by decide, .inl (gE' "ParseError" (by decide))⟩) (suiteF w_told n_e) .nil)))))))))))) ?_)
  · refine ⟨fun pins s' σ' H' D I ⟨Ech, hW, h1, h2, h3⟩ => ?_⟩
    exact (pss_one (ps_expr (act' _ pn xe Ech _ _ (takes_len tkW) fun cls d σ1 H1 he hl => hW cls d σ1 H1 hl he))).run pins s' σ' H' D I ⟨h1, h2, h3⟩
  · refine ⟨RefE X0.K cl (fun tv v H1 => ∀ T H2, H1 T = none → Ex H1 H2 → H2 T = some (.tup [tv, v]) → Q (.ref T) H2), ?_, rfl, e0 _ _ hc, h T0 H0 nT e0 hT _ _ (fun v H1 q1 => ?_) fun _ _ _ z => z⟩
    · rintro cls d σ' H' hlen ⟨CA, dd, fs, jj, ff, tv, v, rfl, rfl, ct, hd, l1, l2, hR⟩
      obtain ⟨q0, hq1, hq2, hq3⟩ := ct.at_
      have hlen : σ'.length = 3 := by rw [hlen, C.nms]; rfl
      refine wishes_at (j := jj) (c := clOf X.K cl q0) (by rw [List.getElem?_map, hq1]; rfl) (fun i' c1 hi hc1 => ?_) (by rw [K0]; exact hq3) fun a na => ?_
      · rw [List.getElem?_map] at hc1
        cases e1 : errTab[i']? with
        | none => rw [e1] at hc1; cases hc1
        | some q1 =>
          rw [e1] at hc1
          have hc1 : some (clOf X.K cl q1) = some c1 := hc1
          cases hc1
          rw [K0]
          exact ct.not_ i' q1 hi e1
      · have fin : ∀ T H1, H' T = none → Ex H' H1 → H1 T = some (.tup [tv, v]) → zB X (defBody s_law_refused |>.drop 2) (fun _ H' => Q .non H') Q (fun _ _ => False) (fun _ _ => False) (((σ'.set 2 (some (.ref a))).set 1 (some (.ref T))).set 2 none) H1 := fun T H1 nT1 e1 hT1 => by
          refine b_one (s_ret (e_name n_told ?_ (hR T H1 nT1 e1 hT1)))
          simp [hlen]
        have h2 : (σ'.set 2 (some (V.ref a)))[2]? = some (some (.ref a)) := by simp [hlen]
        have htag := ct.tag
        have hfld := ct.fld
        obtain ⟨q01, q02⟩ := q0
        have hq2 : q02 = ff := hq2
        subst hq2
        cases q02 with
        | some x => exact ⟨CA, dd, fs, tv, v, rfl, rfl, by rw [K0]; exact ct.xf, by rw [K0]; exact htag, by rw [K0]; exact hfld x rfl, hd, l1, l2, h2, fin⟩
        | none =>
          have l2 : v = .non := l2
          subst l2
          exact ⟨CA, dd, fs, tv, rfl, rfl, by rw [K0]; exact ct.xf, by rw [K0]; exact htag, hd, l1, h2, fin⟩
    · exact b_one (s_ret (e_name n_told rfl q1))
end

/-! lambdas of the law, kept and asked one by one -/
section
variable {P : Program} {w : World} {K : PySem.W.Frag} {mg : Str → Option Value} {base : Heap}
theorem fs1_tag {tag fld : Str} {v : V} : (fs1 tag fld v).lookup ("tag" : Str) = some (.str tag) := rfl
theorem fs1_fld {tag fld : Str} {v : V} (h : (fld == ("tag" : Str)) = false) : (fs1 tag fld v).lookup fld = some v := by
  unfold fs1
  rw [List.lookup_cons, h]
  simp
/-- what is asked raises: it is told -/
theorem tref_out {cl : Str → Addr} {CA : Addr} {q : Nat} {tag fld : Str} {v : V} {TL : (XK → Hp → VK → Prop)} {H : Hp} {Q : VK} (ct : Caught K cl CA q (some fld)) (hf : (fld == ("tag" : Str)) = false) (hb : ∀ E' H0 Q', Ex H H0 → Out E' H0 CA tag fld v → TL E' H0 Q')
    (hq : ∀ T H2, Ex H H2 → H2 T = some (.tup [.str tag, v]) → Q (.ref T) H2) : TRef K cl TL H Q := by
  intro T0 H0 nT e0 hT E' Q' hQ hE
  refine hb E' H0 Q' e0 fun d H' e1 hd => hE _ _ _ ⟨CA, d, _, q, some fld, _, v, rfl, rfl, ct, hd, fs1_tag, fs1_fld hf, fun T H2 nT2 e2 hT2 => hq T H2 ((e0.trans e1).trans e2) hT2⟩
/-- .. or gives something -/
theorem tref_ok {cl : Str → Addr} {TL : (XK → Hp → VK → Prop)} {H : Hp} {Q : VK} (hb : ∀ E' H0 Q', Ex H H0 → (∀ v H1, Ex H0 H1 → Q' v H1) → TL E' H0 Q')
    (hq : ∀ T H2, Ex H H2 → H2 T = some (.tup [.str "", .non]) → Q (.ref T) H2) : TRef K cl TL H Q := by
  intro T0 H0 nT e0 hT E' Q' hQ hE
  exact hb E' H0 Q' e0 fun v H1 e1 => hQ v H1 (hq T0 H1 (e0.trans e1) (e1 _ _ hT))
/-- _law_refused(_law_ask), the lambda raises -/
theorem lam_out {X X1 : Cx} {N1 Nl ps fr : List Str} {sc1 : Scope} {k1 j jj q : Nat} {cl : Str → Addr} {σ0 σ1 : St} {H : Hp} {x : Str} {p py pos : Pos} {qn : Str} {pa : Arguments} {be : Expr} {lsc : Scope} {lcl : List (Str × Addr)} {lc : Addr} {ldv : Option Addr} {f : Addr} {vs : List V} {js : List Nat} {CA : Addr} {tag fld : Str} {v : V}
    (C1 : Ctx X1 P w K mg base N1 sc1 k1) (O : Own X X1 σ0) (gR : Gets P w K mg base "_law_refused" j (TRef K cl)) (hj : j + 2 ≤ k1) (nA : Nm X1 x jj) (hs : σ1[jj]? = some (some (.ref f))) (lk : LamK ⟨qn, pa, be, lsc, lcl, lc, ldv⟩ vs H f) (S : NdefX.nscB Nl ps fr lsc = true) (B : Bnd ⟨qn, pa, be, lsc, lcl, lc, ldv⟩ ps)
    (cp : X.Ok → NdefX.Caps X lcl fr js) (ct : Caught K cl CA q (some fld)) (hf : (fld == ("tag" : Str)) = false)
    (body : ∀ X2 H0 E' Q', Ctx X2 P w K mg base Nl lsc j → Takes X2 (WE E') → Ex H H0 → Out E' H0 CA tag fld v → zE X2 be (NdefX.startF Nl vs (js.map (NdefX.slotAt σ0))) H0 Q')
    (hg : gloB sc1 "_law_refused" = true) (hd : (x == ("__debug__" : Str)) = false := by decide) (hcd : (x == ("__classdict__" : Str)) = false := by decide) :
    zE X1 (.Call (.Name "_law_refused" p) [.Name x py] [] pos) σ1 H (fun y H4 => Ex H H4 ∧ ∃ T, y = .ref T ∧ H4 T = some (.tup [.str tag, v])) := by
  refine e_lamC C1 gR hj nA hs lk.hf lk.hc lk.dv (NdefX.nscope_by S) B (fun pins s I => O.2 _ _ _ (cp O.1) pins _ _ s I) ?_ hg (by decide) hd hcd
  exact tref_out ct hf (fun E' H0 Q' e0 ho => ⟨e0 _ _ lk.hf, lk.dv.ex e0, fun X2 C2 tk => body X2 H0 E' Q' C2 tk e0 ho⟩) fun T H2 e2 hT => ⟨e2, T, rfl, hT⟩
/-- [_law_refused(x) for x in xs] -/
theorem e_asks {X : Cx} {N : List Str} {sc : Scope} {k : Nat} {σ : St} {H : Hp} {Q : VK} {x y : Str} {j i : Nat} {px p3 p py pos2 pos : Pos} {scope : Scope} {own : List (Str × Nat)} {l : Addr} {fs : List Addr} {g : Nat → List V} (C : Ctx X P w K mg base N sc k) (hb : blkC N sc scope own = true) (h1 : N[j]? = some x) (h2 : lclB (relS scope sc) x = true)
    (hw : ∀ v, wipe ((wipe σ (own.map (·.2))).set j (some v)) (own.map (·.2)) = wipe σ (own.map (·.2))) (nl : Nm X y i) (hs : σ[i]? = some (some (.ref l))) (hl : H l = some (.lst (fs.map V.ref))) (hn : fs.length ≤ 100)
    (he : ∀ t f H' X1, fs[t]? = some f → Ex H H' → Ctx X1 P w K mg base N (relS scope sc) k → Own X X1 σ → zE X1 (.Call (.Name "_law_refused" p) [.Name x py] [] pos2) ((wipe σ (own.map (·.2))).set j (some (.ref f))) H' fun y H4 => Ex H' H4 ∧ ∃ T, y = .ref T ∧ H4 T = some (.tup (g t)))
    (hq : ∀ D ys H', H D = none → Ex H H' → H' D = some (.lst ys) → ys.length = fs.length → (∀ t, t < fs.length → ∃ T, ys[t]? = some (.ref T) ∧ H' T = some (.tup (g t))) → Q (.ref D) H')
    (hd : (y == ("__debug__" : Str)) = false := by decide) (hcd : (y == ("__classdict__" : Str)) = false := by decide) :
    zE X (.ListComp (.Call (.Name "_law_refused" p) [.Name x py] [] pos2) [⟨.Name x px, .Name y p3, [], 0⟩] scope pos) σ H Q := by
  refine e_lcO C hb h1 h2 hw (i_list (e_name nl hs ?_ hd hcd))
  refine ⟨l, rfl, ⟨_, SqL.of hl⟩, _, _, _, g, walk_list l (fs.map V.ref), by rw [List.length_map]; omega, fun H' e => SqL.of (e _ _ hl), fun t v H' ht e1 hv X1 C1 O1 => ?_, fun D ys H' nD e1 hD hy hz => hq D ys H' nD e1 hD (by rw [hy, List.length_map]) (by rw [List.length_map] at hz; exact hz)⟩
  rw [List.getElem?_map] at hv
  cases hf : fs[t]? with
  | none => rw [hf] at hv; cases hv
  | some f =>
    rw [hf] at hv
    obtain rfl : V.ref f = v := Option.some.inj hv
    exact he t f H' X1 hf e1 C1 O1
/-- what was told, as data -/
theorem dp_told {H : Hp} {ys : List V} {g : Nat → List V} : ∀ (n : Nat) {ds : List PyData}, ys.length = n → (∀ t, t < n → ∃ T, ys[t]? = some (.ref T) ∧ H T = some (.tup (g t))) → ds.length = n → (∀ t, t < n → ∃ es, ds[t]? = some (.tuple es) ∧ DpAll K H (g t) es) → DpAll K H ys ds := by
  induction ys generalizing g with
  | nil => intro n ds e _ e2 _; cases ds with
    | nil => exact .nil
    | cons _ _ => rw [List.length_nil] at e; rw [← e] at e2; cases e2
  | cons y r ih => intro n ds e h e2 h2; cases ds with
    | nil => rw [List.length_cons] at e; rw [List.length_nil] at e2; omega
    | cons d ds =>
      rw [List.length_cons] at e e2
      obtain ⟨T, e3, hT⟩ := h 0 (by omega)
      obtain ⟨es, e4, hes⟩ := h2 0 (by omega)
      obtain rfl : y = V.ref T := Option.some.inj e3
      obtain rfl : d = .tuple es := Option.some.inj e4
      exact .cons (.tup (SqT.of hT) hes) (ih (g := fun t => g (t + 1)) r.length rfl (fun t ht => h (t + 1) (by omega)) (by omega) fun t ht => h2 (t + 1) (by omega))
end
theorem sh_told {a : Str} (h : PyData.strOk a = true) (i : Int) (n : Nat) (hn : n ≤ 5) : SeqAt.shaped (.list (List.replicate n (.tuple [.str a, .int i]))) = true := by
  match n, hn with
  | 0, _ | 1, _ | 2, _ | 3, _ | 4, _ | 5, _ => simp [h, List.replicate, SeqAt.shaped, PyData.canLay0, PyData.canLayAll0, PyData.depth, PyData.depthAll]
theorem eqv_self {d : PyData} (h : SeqAt.shaped d = true) : PyData.eqv d d = true := SeqAt.eqv_refl d (SeqAt.canLay_of_shaped h)
theorem flat_rep {α : Type} (n : Nat) (x : α) : (List.replicate n [x]).flatten = List.replicate n x := by
  induction n with
  | zero => rfl
  | succ n ih => rw [List.replicate_succ, List.flatten_cons, ih]; rfl

/-! tables of lambdas -/
theorem tabs_of {H : Hp} {T : Addr} {q : Str} (t : LamX.TabS H T q) : LamX.Tabs [(T, q)] H := fun p hp => by rw [List.mem_singleton.mp hp]; exact t
theorem of_tabs {H : Hp} {T : Addr} {q : Str} (t : LamX.Tabs [(T, q)] H) : LamX.TabS H T q := t _ (List.mem_singleton.mpr rfl)

/-! texts of choosers, plain: lines written, lines read -/
abbrev Ln := List Nat
def isDig (c : Nat) : Bool := decide (48 ≤ c) && decide (c ≤ 57)
/-- the number that a word writes -/
def numIn (w : Ln) : Option Nat := if w ≠ [] ∧ w.all isDig = true ∧ w.length ≤ 3 ∧ TL.numL (NumText.digitsVal w) = w then some (NumText.digitsVal w) else none
def numsIn : List Ln → Option (List Nat)
  | [] => some []
  | w :: ws => match numIn w, numsIn ws with
    | some n, some ns => some (n :: ns)
    | _, _ => none
theorem numIn_numL {n : Nat} (h : n < 1000) : numIn (TL.numL n) = some n := by
  unfold numIn
  have hd : (TL.numL n).all isDig = true := by
    rw [List.all_eq_true]
    intro c hc
    have := TL.numL_digits n c hc
    unfold isDig
    rw [Bool.and_eq_true, decide_eq_true_eq, decide_eq_true_eq]
    exact this
  rw [TL.numL_val, if_pos ⟨TL.numL_ne n, hd, TL.numL_len (by decide) h, rfl⟩]
theorem numsIn_numL : ∀ {ns : List Nat}, (∀ n ∈ ns, n < 1000) → numsIn (ns.map TL.numL) = some ns
  | [], _ => rfl
  | n :: ns, h => by
    show (match numIn (TL.numL n), numsIn (ns.map TL.numL) with | some n, some ns => some (n :: ns) | _, _ => none) = _
    rw [numIn_numL (h n (List.mem_cons_self ..)), numsIn_numL fun m hm => h m (List.mem_cons_of_mem _ hm)]
theorem numsIn_len : ∀ {ws : List Ln} {ns : List Nat}, numsIn ws = some ns → ns.length = ws.length
  | [], ns, h => by cases h; rfl
  | w :: ws, ns, h => by
    unfold numsIn at h
    split at h
    · next n ms h1 h2 =>
      cases h
      rw [List.length_cons, List.length_cons, numsIn_len h2]
    · cases h
/-- a line's words -/
def wordsL (l : Ln) : List Ln := TL.spl [32] 0 [] l
theorem wordsL_join {ps : List Ln} (hne : ps ≠ []) (h : ∀ p ∈ ps, (32 : Nat) ∉ p) : wordsL (TL.joinL [32] ps) = ps := TL.spl_join hne h
def arrowL : Ln := [45, 62]
def moveL : Ln := [109, 111, 118, 101]
def roomsL : Ln := [114, 111, 111, 109, 115]
def ruleWs (u : Rul) : List Ln := [u.c] :: (u.needs.map TL.numL ++ [arrowL, TL.numL u.room, TL.numL u.price])
def ruleLine (u : Rul) : Ln := TL.joinL [32] (ruleWs u)
def moveWs (m : Mv) : List Ln := [moveL, TL.numL m.1, TL.numL m.2.1, TL.numL m.2.2]
def moveLine (m : Mv) : Ln := TL.joinL [32] (moveWs m)
def roomsLine (r : Nat) : Ln := roomsL ++ [32] ++ TL.numL r
def readRule (l : Ln) : Option Rul := match wordsL l with
  | [c] :: ws => if c ∈ tl zLetters ∧ ws.length = ar c + 3 ∧ ws.getD (ar c) [] = arrowL then
      match numsIn (ws.take (ar c) ++ ws.drop (ar c + 1)) with
      | some ns => some ⟨c, ns.take (ar c), ns.getD (ar c) 0, ns.getD (ar c + 1) 0⟩
      | none => none
    else none
  | _ => none
def readMove (l : Ln) : Option Mv := match wordsL l with
  | w :: ws => if w = moveL then match numsIn ws with
      | some [a, b, c] => some (a, b, c)
      | _ => none
    else none
  | [] => none
def readRooms (l : Ln) : Option Nat := match TL.par [32] [] l with
  | some (w, r) => if w = roomsL then numIn r else none
  | none => none
theorem free32 (n : Nat) : (32 : Nat) ∉ TL.numL n := TL.numL_free (.inl (by decide))
theorem free10 (n : Nat) : (10 : Nat) ∉ TL.numL n := TL.numL_free (.inl (by decide))
theorem letter_free {c : Nat} (h : c ∈ tl zLetters) : c ≠ 32 ∧ c ≠ 10 ∧ c ≠ 109 + 0 * 1 ∨ c = 109 := by
  by_cases e : c = 109
  · exact .inr e
  · refine .inl ⟨fun e2 => ?_, fun e2 => ?_, e⟩
    · subst e2; exact absurd h (by decide)
    · subst e2; exact absurd h (by decide)
theorem letter_ne {c : Nat} (h : c ∈ tl zLetters) : c ≠ 32 ∧ c ≠ 10 := by
  refine ⟨fun e2 => ?_, fun e2 => ?_⟩
  · subst e2; exact absurd h (by decide)
  · subst e2; exact absurd h (by decide)
theorem ruleWs_free {u : Rul} (hc : u.c ∈ tl zLetters) : ∀ p ∈ ruleWs u, (32 : Nat) ∉ p ∧ (10 : Nat) ∉ p := by
  intro p hp
  unfold ruleWs at hp
  simp only [List.mem_cons, List.mem_append, List.mem_map, List.not_mem_nil, or_false] at hp
  obtain ⟨h1, h2⟩ := letter_ne hc
  rcases hp with rfl | ⟨n, _, rfl⟩ | rfl | rfl | rfl
  · exact ⟨fun h => h1 (List.mem_singleton.mp h).symm, fun h => h2 (List.mem_singleton.mp h).symm⟩
  · exact ⟨free32 n, free10 n⟩
  · exact ⟨by decide, by decide⟩
  · exact ⟨free32 _, free10 _⟩
  · exact ⟨free32 _, free10 _⟩
theorem moveWs_free (m : Mv) : ∀ p ∈ moveWs m, (32 : Nat) ∉ p ∧ (10 : Nat) ∉ p := by
  intro p hp
  unfold moveWs at hp
  simp only [List.mem_cons, List.not_mem_nil, or_false] at hp
  rcases hp with rfl | rfl | rfl | rfl
  · exact ⟨by decide, by decide⟩
  · exact ⟨free32 _, free10 _⟩
  · exact ⟨free32 _, free10 _⟩
  · exact ⟨free32 _, free10 _⟩
theorem joinL_mem {s : Nat} {S : Ln} : ∀ {ps : List Ln}, s ∈ TL.joinL S ps → s ∈ S ∨ ∃ p ∈ ps, s ∈ p
  | [], h => by exact absurd h (by simp [TL.joinL])
  | [p], h => .inr ⟨p, List.mem_cons_self .., by simpa [TL.joinL] using h⟩
  | p :: q :: ps, h => by
    have e : TL.joinL S (p :: q :: ps) = p ++ (S ++ TL.joinL S (q :: ps)) := by simp [TL.joinL]
    rw [e, List.mem_append, List.mem_append] at h
    rcases h with h | h | h
    · exact .inr ⟨p, List.mem_cons_self .., h⟩
    · exact .inl h
    · rcases joinL_mem h with h | ⟨x, hx, h⟩
      · exact .inl h
      · exact .inr ⟨x, List.mem_cons_of_mem _ hx, h⟩
theorem ruleLine_nl {u : Rul} (hc : u.c ∈ tl zLetters) : (10 : Nat) ∉ ruleLine u := fun h => by
  rcases joinL_mem h with h | ⟨p, hp, h⟩
  · exact absurd h (by decide)
  · exact (ruleWs_free hc p hp).2 h
theorem moveLine_nl (m : Mv) : (10 : Nat) ∉ moveLine m := fun h => by
  rcases joinL_mem h with h | ⟨p, hp, h⟩
  · exact absurd h (by decide)
  · exact (moveWs_free m p hp).2 h
theorem roomsLine_nl (r : Nat) : (10 : Nat) ∉ roomsLine r := fun h => by
  unfold roomsLine at h
  rw [List.mem_append] at h
  rcases h with h | h
  · exact absurd h (by decide)
  · exact free10 r h
theorem words_rule {u : Rul} (hc : u.c ∈ tl zLetters) : wordsL (ruleLine u) = ruleWs u := wordsL_join (by unfold ruleWs; simp) fun p hp => (ruleWs_free hc p hp).1
theorem words_move (m : Mv) : wordsL (moveLine m) = moveWs m := wordsL_join (by unfold moveWs; simp) fun p hp => (moveWs_free m p hp).1
/-- a rule that can be written -/
def RulW (u : Rul) : Prop := u.c ∈ tl zLetters ∧ u.needs.length = ar u.c ∧ (∀ n ∈ u.needs, n < 1000) ∧ u.room < 1000 ∧ u.price < 1000
def MvW (m : Mv) : Prop := m.1 < 1000 ∧ m.2.1 < 1000 ∧ m.2.2 < 1000
theorem read_rule {u : Rul} (h : RulW u) : readRule (ruleLine u) = some u := by
  obtain ⟨hc, hl, hn, hr, hp⟩ := h
  unfold readRule
  rw [words_rule hc]
  unfold ruleWs
  have l1 : (u.needs.map TL.numL).length = ar u.c := by rw [List.length_map, hl]
  have t1 : (u.needs.map TL.numL ++ [arrowL, TL.numL u.room, TL.numL u.price]).take (ar u.c) = u.needs.map TL.numL := by rw [← l1, List.take_left]
  have d1 : (u.needs.map TL.numL ++ [arrowL, TL.numL u.room, TL.numL u.price]).drop (ar u.c + 1) = [TL.numL u.room, TL.numL u.price] := by
    rw [← l1, List.drop_append, List.drop_eq_nil_of_le (by omega), Nat.add_sub_cancel_left]; rfl
  have g1 : (u.needs.map TL.numL ++ [arrowL, TL.numL u.room, TL.numL u.price]).getD (ar u.c) [] = arrowL := by
    rw [List.getD_eq_getElem?_getD, List.getElem?_append_right (by omega), l1, Nat.sub_self]; rfl
  have e1 : u.needs.map TL.numL ++ [TL.numL u.room, TL.numL u.price] = (u.needs ++ [u.room, u.price]).map TL.numL := by rw [List.map_append]; rfl
  have n1 : numsIn ((u.needs ++ [u.room, u.price]).map TL.numL) = some (u.needs ++ [u.room, u.price]) := numsIn_numL fun n hm => by
    rw [List.mem_append] at hm
    rcases hm with hm | hm
    · exact hn n hm
    · simp only [List.mem_cons, List.not_mem_nil, or_false] at hm
      rcases hm with rfl | rfl
      · exact hr
      · exact hp
  show (if u.c ∈ tl zLetters ∧ (u.needs.map TL.numL ++ [arrowL, TL.numL u.room, TL.numL u.price]).length = ar u.c + 3 ∧ (u.needs.map TL.numL ++ [arrowL, TL.numL u.room, TL.numL u.price]).getD (ar u.c) [] = arrowL then _ else none) = _
  rw [if_pos ⟨hc, by rw [List.length_append, l1]; rfl, g1⟩, t1, d1, e1, n1]
  dsimp only
  rw [← hl, List.take_left, List.getD_eq_getElem?_getD, List.getElem?_append_right (Nat.le_refl _), Nat.sub_self, List.getD_eq_getElem?_getD, List.getElem?_append_right (by omega), Nat.add_sub_cancel_left]
  rfl
theorem read_move {m : Mv} (h : MvW m) : readMove (moveLine m) = some m := by
  unfold readMove
  rw [words_move]
  show (if moveL = moveL then _ else none) = _
  rw [if_pos rfl]
  have n1 : numsIn ([m.1, m.2.1, m.2.2].map TL.numL) = some [m.1, m.2.1, m.2.2] := numsIn_numL fun n hm => by
    simp only [List.mem_cons, List.not_mem_nil, or_false] at hm
    rcases hm with rfl | rfl | rfl
    · exact h.1
    · exact h.2.1
    · exact h.2.2
  have n2 : numsIn [TL.numL m.1, TL.numL m.2.1, TL.numL m.2.2] = some [m.1, m.2.1, m.2.2] := n1
  rw [n2]
theorem read_rule_move (m : Mv) : readRule (moveLine m) = none := by
  unfold readRule
  rw [words_move]
  rfl
theorem read_move_rule {u : Rul} (hc : u.c ∈ tl zLetters) : readMove (ruleLine u) = none := by
  unfold readMove
  rw [words_rule hc]
  show (if [u.c] = moveL then _ else none) = none
  rw [if_neg (fun e => by simp [moveL] at e)]
theorem read_rooms {r : Nat} (h : r < 1000) : readRooms (roomsLine r) = some r := by
  unfold readRooms roomsLine
  have e : TL.par [32] [] (roomsL ++ ([32] ++ TL.numL r)) = some ([] ++ roomsL, TL.numL r) := TL.par_part1 (s := 32) (S := []) (by decide)
  rw [List.append_assoc, e]
  show (if roomsL = roomsL then numIn (TL.numL r) else none) = _
  rw [if_pos rfl, numIn_numL h]
/-- the lines behind the first one: what is wrong first, or rules and moves -/
def rdLines : List Ln → List Rul → List Mv → Nat → Nat ⊕ (List Rul × List Mv)
  | [], rs, ms, _ => .inr (rs, ms)
  | l :: ls, rs, ms, n => match (if ms = [] then readRule l else none), readMove l with
    | some u, _ => rdLines ls (rs ++ [u]) ms (n + 1)
    | none, some m => rdLines ls rs (ms ++ [m]) (n + 1)
    | none, none => .inl n
def rdAll : List Ln → Nat ⊕ (Nat × List Rul × List Mv)
  | [] => .inl 0
  | l :: ls => match readRooms l with
    | none => .inl 0
    | some r => match rdLines ls [] [] 1 with
      | .inl k => .inl k
      | .inr (us, ms) => .inr (r, us, ms)
theorem rdLines_rules : ∀ {us : List Rul} {ls : List Ln} {rs : List Rul} {n : Nat}, (∀ u ∈ us, RulW u) → rdLines (us.map ruleLine ++ ls) rs [] n = rdLines ls (rs ++ us) [] (n + us.length)
  | [], ls, rs, n, _ => by rw [List.map_nil, List.nil_append, List.append_nil]; rfl
  | u :: us, ls, rs, n, h => by
    rw [List.map_cons, List.cons_append]
    show (match (if ([] : List Mv) = [] then readRule (ruleLine u) else none), readMove (ruleLine u) with | some u, _ => rdLines (us.map ruleLine ++ ls) (rs ++ [u]) [] (n + 1) | none, some m => rdLines (us.map ruleLine ++ ls) rs ([] ++ [m]) (n + 1) | none, none => .inl n) = _
    rw [if_pos rfl, read_rule (h u (List.mem_cons_self ..))]
    dsimp only
    rw [rdLines_rules fun v hv => h v (List.mem_cons_of_mem _ hv), List.append_assoc, List.length_cons]
    congr 1
    omega
theorem rdLines_moves : ∀ {ms : List Mv} {ls : List Ln} {rs : List Rul} {m0 : List Mv} {n : Nat}, (∀ m ∈ ms, MvW m) → rdLines (ms.map moveLine ++ ls) rs m0 n = rdLines ls rs (m0 ++ ms) (n + ms.length)
  | [], ls, rs, m0, n, _ => by rw [List.map_nil, List.nil_append, List.append_nil]; rfl
  | m :: ms, ls, rs, m0, n, h => by
    rw [List.map_cons, List.cons_append]
    show (match (if m0 = [] then readRule (moveLine m) else none), readMove (moveLine m) with | some u, _ => rdLines (ms.map moveLine ++ ls) (rs ++ [u]) m0 (n + 1) | none, some m => rdLines (ms.map moveLine ++ ls) rs (m0 ++ [m]) (n + 1) | none, none => .inl n) = _
    rw [read_rule_move, ite_self, read_move (h m (List.mem_cons_self ..))]
    dsimp only
    rw [rdLines_moves fun v hv => h v (List.mem_cons_of_mem _ hv), List.append_assoc, List.length_cons]
    congr 1
    omega
/-- a chooser's lines -/
def chLines (r : Nat) (us : List Rul) (ms : List Mv) : List Ln := roomsLine r :: (us.map ruleLine ++ ms.map moveLine)
theorem rdAll_ok {r : Nat} {us : List Rul} {ms : List Mv} (hr : r < 1000) (hu : ∀ u ∈ us, RulW u) (hm : ∀ m ∈ ms, MvW m) : rdAll (chLines r us ms) = .inr (r, us, ms) := by
  show (match readRooms (roomsLine r) with | none => (Sum.inl 0 : Nat ⊕ (Nat × List Rul × List Mv)) | some r => match rdLines (us.map ruleLine ++ ms.map moveLine) [] [] 1 with | .inl k => .inl k | .inr (us, ms) => .inr (r, us, ms)) = _
  rw [read_rooms hr]
  have e : rdLines (us.map ruleLine ++ ms.map moveLine) [] [] 1 = .inr (us, ms) := by
    rw [rdLines_rules hu]
    have := rdLines_moves (ls := []) (rs := [] ++ us) (m0 := []) (n := 1 + us.length) hm
    rw [List.append_nil] at this
    rw [this]
    rfl
  dsimp only
  rw [e]
/-- the text of some lines -/
def textL (ls : List Ln) : Ln := (ls.map fun l => l ++ [10]).flatten
theorem textL_join : ∀ (ls : List Ln) (rest : Ln), textL ls ++ rest = TL.joinL [10] (ls ++ [rest])
  | [], rest => by simp [textL, TL.joinL]
  | [l], rest => by simp [textL, TL.joinL]
  | l :: m :: ls, rest => by
    have ih := textL_join (m :: ls) rest
    have e1 : textL (l :: m :: ls) = l ++ [10] ++ textL (m :: ls) := by unfold textL; rw [List.map_cons, List.flatten_cons]
    rw [e1, List.append_assoc, ih]
    simp [TL.joinL]
theorem split_text {ls : List Ln} {rest : Ln} (h : ∀ l ∈ ls, (10 : Nat) ∉ l) (hr : (10 : Nat) ∉ rest) : TL.spl [10] 0 [] (textL ls ++ rest) = ls ++ [rest] := by
  rw [textL_join]
  refine TL.spl_join (by simp) fun p hp => ?_
  rw [List.mem_append] at hp
  rcases hp with hp | hp
  · exact h p hp
  · simp only [List.mem_cons, List.not_mem_nil, or_false] at hp
    subst hp
    exact hr

/-! numbers that words write, walked -/
abbrev s_number_in : Stmt := topS 66
abbrev N_number_in : List Str := ["word"]
abbrev P_number_in : List Str := ["word"]
theorem sc_number_in : FnScope N_number_in P_number_in (defScope s_number_in) := ⟨rfl, rfl, rfl, by decide +kernel, rfl, by decide +kernel, by decide +kernel⟩
abbrev s_numbers_in : Stmt := topS 67
abbrev N_numbers_in : List Str := ["words", "found", "word"]
abbrev P_numbers_in : List Str := ["words"]
theorem sc_numbers_in : FnScope N_numbers_in P_numbers_in (defScope s_numbers_in) := ⟨rfl, rfl, rfl, by decide +kernel, rfl, by decide +kernel, by decide +kernel⟩

def As (l : Ln) : Prop := (∀ c ∈ l, c < 128) ∧ l.length ≤ 100000
def oV : Option Nat → V
  | none => .non
  | some n => nV n
def wV (l : Ln) : V := .str (SX.S l)
theorem len_S (l : Ln) : (SX.S l).length = l.length := SX.S_len l
theorem ud_ascii : ∀ c, c < 128 → Unicode.isDigit c = isDig c := by decide +kernel
theorem isdigit_S {l : Ln} (h : As l) : Txt.isdigit (SX.S l) = (decide (l ≠ []) && l.all isDig) := by
  have e1 : (SX.S l).cps.all Unicode.isDigit = l.all isDig := by
    rw [← Array.all_toList]
    show l.all Unicode.isDigit = _
    rw [Bool.eq_iff_iff, List.all_eq_true, List.all_eq_true]
    exact ⟨fun q c hc => by rw [← ud_ascii c (h.1 c hc)]; exact q c hc, fun q c hc => by rw [ud_ascii c (h.1 c hc)]; exact q c hc⟩
  unfold Txt.isdigit
  rw [e1, len_S]
  cases l with
  | nil => rfl
  | cons c l => simp
theorem int_W {l : Ln} (h : l.all isDig = true) (hne : l ≠ []) (hl : l.length ≤ 3) : PySem.intText? (SX.S l) = some ((NumText.digitsVal l : Nat) : Int) := SX.int_S (by rw [List.all_eq_true] at *; exact fun c hc => h c hc) hne (by omega)
theorem digitsVal_lt {l : Ln} (h : l.all isDig = true) (hl : l.length ≤ 3) : NumText.digitsVal l < 1000 := by
  have hd : ∀ c ∈ l, c ≤ 57 := fun c hc => by
    have := List.all_eq_true.mp h c hc
    unfold isDig at this
    rw [Bool.and_eq_true, decide_eq_true_eq, decide_eq_true_eq] at this
    exact this.2
  unfold NumText.digitsVal
  match l, hl, hd with
  | [], _, _ => decide
  | [a], _, hd =>
    have := hd a (by simp)
    show 0 * 10 + (a - 48) < 1000
    omega
  | [a, b], _, hd =>
    have := hd a (by simp)
    have := hd b (by simp)
    show (0 * 10 + (a - 48)) * 10 + (b - 48) < 1000
    omega
  | [a, b, c], _, hd =>
    have := hd a (by simp)
    have := hd b (by simp)
    have := hd c (by simp)
    show ((0 * 10 + (a - 48)) * 10 + (b - 48)) * 10 + (c - 48) < 1000
    omega
def spNumIn : Sp := fun vs H Q _ => ∃ l, vs = [wV l] ∧ As l ∧ Q (oV (numIn l)) H
def spNumsIn (K : PySem.W.Frag) : Sp := fun vs H Q _ => ∃ (a : Addr) (ws : List Ln), vs = [.ref a] ∧ SqL K H a (ws.map wV) ∧ (∀ l ∈ ws, As l) ∧ ws.length ≤ 100000 ∧ (numsIn ws = none → ∀ H', Ex H H' → Q .non H') ∧ (∀ ns, numsIn ws = some ns → ∀ p H', H p = none → Ex H H' → H' p = some (.lst (ns.map nV)) → Q (.ref p) H')
theorem numsIn_cons (w : Ln) (ws : List Ln) : numsIn (w :: ws) = (match numIn w, numsIn ws with | some n, some ns => some (n :: ns) | _, _ => none) := rfl
theorem nums_none : ∀ {ws : List Ln}, inV .non (ws.map fun l => oV (numIn l)) = (numsIn ws).isNone
  | [] => rfl
  | w :: ws => by
    have ih := nums_none (ws := ws)
    unfold inV at *
    rw [List.map_cons, List.any_cons, ih, numsIn_cons]
    cases h1 : numIn w with
    | none => rfl
    | some n =>
      cases h2 : numsIn ws with
      | none => rfl
      | some ns => rfl
theorem nums_some : ∀ {ws : List Ln} {ns : List Nat}, numsIn ws = some ns → (ws.map fun l => oV (numIn l)) = ns.map nV
  | [], ns, h => by cases h; rfl
  | w :: ws, ns, h => by
    unfold numsIn at h
    split at h
    · next n ms h1 h2 =>
      cases h
      rw [List.map_cons, h1, nums_some h2]
      rfl
    · cases h
theorem flat_oV (ws : List Ln) : (ws.map fun l => oV (numIn l)).all flatV = true := by
  rw [List.all_eq_true]
  intro v hv
  obtain ⟨l, _, rfl⟩ := List.mem_map.mp hv
  cases numIn l <;> rfl
section
variable {P : Program} {w : World} {K : PySem.W.Frag} {mg : Str → Option Value} {base : Heap}
theorem ok_number_in {f : Addr} {fd : FuncData} (F : FnP K "number_in" s_number_in f fd) (mL : mg "len" = none) (mI : mg "int" = none) (mS : mg "str" = none) (gM : Gi mg "MOST_DIGITS" 3) : FnOk P w K mg base CX0 1 f fd P_number_in spNumIn := by
  refine fn_ok F sc_number_in (fun vs H Q E ⟨_, h, _⟩ => by rw [h]; rfl) fun X vs H Q E C hfn ⟨l, hv, hl, hq⟩ => ?_
  subst hv
  have n_word : Nm X "word" 0 := C.nm rfl (by decide +kernel)
  have no : ∀ {b : Bool}, b = true → numIn l = none → Q (oV (numIn l)) H → Q .non H := fun _ e q => by rw [e] at q; exact q
  refine b_cons ?_
  kpc_turns
  refine e_isdigit (e_name n_word rfl ⟨SX.S l, rfl, ?_⟩)
  rw [isdigit_S hl]
  refine ⟨_, rfl, ?_⟩
  cases hd : (decide (l ≠ []) && l.all isDig) with
  | false =>
    have e0 : numIn l = none := by
      unfold numIn
      refine if_neg fun h => ?_
      have : (decide (l ≠ []) && l.all isDig) = true := by rw [h.2.1, decide_eq_true h.1]; rfl
      rw [hd] at this
      cases this
    refine if_ct rfl (if_ct rfl ?_)
    refine b_cons ?_
    kpc_turns
    exact no rfl e0 hq
  | true =>
    rw [Bool.and_eq_true] at hd
    obtain ⟨h1, h2⟩ := hd
    have h1 := of_decide_eq_true h1
    refine if_cf (by decide) ?_
    kpc_turns
    have hL : (SX.S l).length ≤ sizeLine := by
      rw [len_S]
      exact Nat.le_trans hl.2 (by decide)
    refine c_lenS (z := SX.S l) hL ?_
    rw [len_S]
    kpc_turns
    refine if_d (fun h => if_ct rfl ?_) fun h => ?_
    · have e0 : numIn l = none := by
        unfold numIn
        exact if_neg fun q => by
          have := q.2.2.1
          omega
      refine b_cons ?_
      kpc_turns
      exact no rfl e0 hq
    have l3 : l.length ≤ 3 := by omega
    have hI := int_W h2 h1 l3
    have hlt := digitsVal_lt h2 l3
    kpc_turns
    refine e_str1 C mS ?_
    kpc_turns
    refine c_intS (z := SX.S l) hI (by rw [len_S]; omega) ?_
    refine ⟨_, rfl, small_log (by omega), ?_⟩
    kpc_turns
    rw [SX.num_S]
    refine o_neS (v := SX.S l) ?_
    refine ⟨_, rfl, ?_⟩
    by_cases he : TL.numL (NumText.digitsVal l) = l
    · rw [he, decide_eq_true rfl]
      refine if_cf rfl ?_
      refine b_nil ?_
      refine b_cons ?_
      kpc_turns
      refine c_intS (z := SX.S l) hI (by rw [len_S]; omega) ?_
      have e1 : numIn l = some (NumText.digitsVal l) := by
        unfold numIn
        exact if_pos ⟨h1, h2, l3, he⟩
      rw [e1] at hq
      exact hq
    · rw [decide_eq_false fun e => he (SX.S_inj e)]
      have e0 : numIn l = none := by
        unfold numIn
        exact if_neg fun q => he q.2.2.2
      refine if_ct rfl ?_
      refine b_cons ?_
      kpc_turns
      exact no rfl e0 hq
theorem ok_numbers_in {f : Addr} {fd : FuncData} (F : FnP K "numbers_in" s_numbers_in f fd) (cN : Cal P w K mg base CX0 "number_in" 1 1 spNumIn) : FnOk P w K mg base CX0 2 f fd P_numbers_in (spNumsIn K) := by
  refine fn_ok F sc_numbers_in (fun vs H Q E ⟨_, _, h, _⟩ => by rw [h]; rfl) fun X vs H Q E C hfn ⟨a, ws, hv, ha, has, hn, h0, h1⟩ => ?_
  subst hv
  rw [← C.frg] at ha
  have n_words : Nm X "words" 0 := C.nm rfl (by decide +kernel)
  have n_found : Nm X "found" 1 := C.nm rfl (by decide +kernel)
  have w_found : Ns X "found" 1 := C.ns rfl (by decide +kernel) (.inl (hfn _))
  refine b_cons ?_
  refine s_lc (i := 1) (own := [("word", 2)]) C (by decide +kernel) rfl (by decide +kernel) rfl rfl rfl (i_list (e_name n_words rfl ?_))
  refine ⟨a, rfl, ⟨_, ha⟩, _, _, _, _, walk_list a _, Z.comp_map (j := 2) C (fun t => oV (numIn (ws.getD t []))) (by rw [List.length_map]; exact hn) (fun H' e => ex_l e ha) rfl (by decide +kernel) (fun _ => rfl) ?_, ?_⟩
  · rintro t v H2 ht e2 hv X1 C1
    have n_word : Nm X1 "word" 2 := C1.nm rfl (by decide +kernel)
    have w_word : Ns X1 "word" 2 := C1.ns rfl (by decide +kernel) (.inr (by decide +kernel))
    rw [List.getElem?_map] at hv
    obtain ⟨l, hl, rfl⟩ := Option.map_eq_some_iff.mp hv
    kpc_turns
    refine ⟨l, rfl, has l (List.mem_of_getElem? hl), Evl.Ex.refl _, ?_⟩
    rw [List.getD_eq_getElem?_getD, hl]
    rfl
  intro D ys H2 nD e2 hD hy
  have hy2 : ys = ws.map fun l => oV (numIn l) := by
    rw [hy, List.length_map]
    refine List.ext_getElem (by simp) fun i h1 h2 => ?_
    rw [List.getElem_map, List.getElem_map, List.getElem_range, List.getD_eq_getElem?_getD, List.getElem?_eq_getElem (by simpa using h2)]
    rfl
  subst hy2
  refine b_cons ?_
  kpc_turns
  refine o_inL (xs := ws.map fun l => oV (numIn l)) (SqL.of hD) rfl (flat_oV ws) ?_
  rw [nums_none]
  refine ⟨_, rfl, ?_⟩
  cases hn : numsIn ws with
  | none =>
    refine if_ct rfl ?_
    kpc_turns
    exact h0 hn H2 e2
  | some ns =>
    refine if_cf rfl ?_
    kpc_turns
    exact h1 ns hn D H2 nD e2 (by rw [hD, nums_some hn])
end

/-! texts of choosers written, plain -/
def lnsV (ls : List Ln) : List V := ls.map wV
def spRuleLine : Sp := fun vs H Q _ => ∃ v u, vs = [v] ∧ Rt H v u ∧ RulW u ∧ u.needs.length ≤ 1000 ∧ ∀ H', Ex H H' → Q (wV (ruleLine u)) H'
def spChLines : Sp := fun vs H Q _ => ∃ (r : Nat) (rl ml : Addr) (rxs mxs : List V) (us : List Rul) (ms : List Mv), vs = [.int r, .ref rl, .ref ml] ∧ r < 1000 ∧ H rl = some (.lst rxs) ∧ Paired (Rt H) rxs us ∧ H ml = some (.lst mxs) ∧ Paired (Mt H) mxs ms ∧ us.length ≤ 1000 ∧ ms.length ≤ 1000 ∧ (∀ u ∈ us, RulW u) ∧ (∀ m ∈ ms, MvW m) ∧
  ∀ p H', H p = none → Ex H H' → H' p = some (.lst (lnsV (chLines r us ms))) → Q (.ref p) H'
theorem map_W (ls : List Ln) : (ls.map SX.S).map V.str = lnsV ls := by unfold lnsV; rw [List.map_map]; rfl
theorem sum_W {B : Nat} : ∀ {ls : List Ln}, (∀ l ∈ ls, l.length ≤ B) → ((ls.map SX.S).map (·.length)).sum ≤ ls.length * B
  | [], _ => Nat.zero_le _
  | l :: ls, h => by
    have ih := sum_W (ls := ls) fun x hx => h x (List.mem_cons_of_mem _ hx)
    have h1 := h l (List.mem_cons_self ..)
    rw [List.map_cons, List.map_cons, List.sum_cons, List.length_cons, len_S, Nat.succ_mul]
    omega
theorem join_W (a : Ln) (ws : List Ln) : PySem.Str.join (SX.S a) (ws.map SX.S) = SX.S (TL.joinL a ws) := by rw [← TL.join_eq, SX.join_S]
theorem numL3 {n : Nat} (h : n < 1000) : (TL.numL n).length ≤ 3 := TL.numL_len (by decide) h
theorem ruleWs_len {u : Rul} (h : RulW u) : ∀ l ∈ ruleWs u, l.length ≤ 3 := by
  obtain ⟨hc, hl, hn, hr, hp⟩ := h
  intro l hm
  unfold ruleWs at hm
  simp only [List.mem_cons, List.mem_append, List.mem_map, List.not_mem_nil, or_false] at hm
  rcases hm with rfl | ⟨n, hn2, rfl⟩ | rfl | rfl | rfl
  · show 1 ≤ 3; decide
  · exact numL3 (hn n hn2)
  · decide
  · exact numL3 hr
  · exact numL3 hp

/-! how long texts of choosers are -/
theorem textL_len {B : Nat} : ∀ {ls : List Ln}, (∀ l ∈ ls, l.length ≤ B) → (textL ls).length ≤ ls.length * (B + 1)
  | [], _ => Nat.zero_le _
  | l :: ls, h => by
    have ih := textL_len (ls := ls) fun x hx => h x (List.mem_cons_of_mem _ hx)
    have h1 := h l (List.mem_cons_self ..)
    have e1 : textL (l :: ls) = l ++ [10] ++ textL ls := by unfold textL; rw [List.map_cons, List.flatten_cons]
    rw [e1, List.length_append, List.length_append, show (l :: ls).length = ls.length + 1 from rfl, Nat.succ_mul]
    show l.length + 1 + _ ≤ _
    omega
theorem joinL_len {s : Nat} {B : Nat} : ∀ {ps : List Ln}, (∀ p ∈ ps, p.length ≤ B) → (TL.joinL [s] ps).length ≤ ps.length * (B + 1)
  | [], _ => by simp [TL.joinL]
  | [p], h => by
    have := h p (List.mem_cons_self ..)
    simp [TL.joinL]
    omega
  | p :: q :: ps, h => by
    have ih := joinL_len (s := s) (ps := q :: ps) fun x hx => h x (List.mem_cons_of_mem _ hx)
    have h1 := h p (List.mem_cons_self ..)
    have e : TL.joinL [s] (p :: q :: ps) = p ++ ([s] ++ TL.joinL [s] (q :: ps)) := by simp [TL.joinL]
    rw [e, List.length_append, List.length_append, show (p :: q :: ps).length = (q :: ps).length + 1 from rfl, Nat.succ_mul]
    show p.length + (1 + _) ≤ _
    omega
theorem joinL_nil : ∀ ps : List Ln, TL.joinL [] ps = ps.flatten
  | [] => by simp [TL.joinL]
  | [p] => by simp [TL.joinL]
  | p :: q :: ps => by
    have ih := joinL_nil (q :: ps)
    have e : TL.joinL [] (p :: q :: ps) = p ++ ([] ++ TL.joinL [] (q :: ps)) := by simp [TL.joinL]
    rw [e, ih]
    simp
theorem ar_le3 (c : Nat) : ar c ≤ 2 := by
  unfold ar
  split <;> (try split) <;> omega
theorem chLines_len {r : Nat} {us : List Rul} {ms : List Mv} (hr : r < 1000) (hu : ∀ u ∈ us, RulW u) (hm : ∀ m ∈ ms, MvW m) : ∀ l ∈ chLines r us ms, l.length ≤ 40 := by
  intro l hl
  unfold chLines at hl
  rw [List.mem_cons, List.mem_append, List.mem_map, List.mem_map] at hl
  rcases hl with rfl | ⟨u, h, rfl⟩ | ⟨m, h, rfl⟩
  · unfold roomsLine
    rw [List.length_append]
    have := numL3 hr
    show 6 + _ ≤ 40
    omega
  · have h2 := joinL_len (s := 32) (ruleWs_len (hu u h))
    have h3 : (ruleWs u).length ≤ 6 := by
      have := (hu u h).2.1
      have := ar_le3 u.c
      unfold ruleWs
      simp
      omega
    unfold ruleLine
    omega
  · have h0 := hm m h
    have h2 : (TL.joinL [32] (moveWs m)).length ≤ (moveWs m).length * (4 + 1) := joinL_len (s := 32) fun p hp => by
      unfold moveWs at hp
      simp only [List.mem_cons, List.not_mem_nil, or_false] at hp
      rcases hp with rfl | rfl | rfl | rfl
      · decide
      · have := numL3 h0.1; omega
      · have := numL3 h0.2.1; omega
      · have := numL3 h0.2.2; omega
    have h3 : (moveWs m).length = 4 := rfl
    unfold moveLine
    omega

/-! lines of texts read, walked -/
abbrev s_read_rooms : Stmt := topS 68
abbrev N_read_rooms : List Str := ["line", "word", "space", "rest"]
abbrev P_read_rooms : List Str := ["line"]
theorem sc_read_rooms : FnScope N_read_rooms P_read_rooms (defScope s_read_rooms) := ⟨rfl, rfl, rfl, by decide +kernel, rfl, by decide +kernel, by decide +kernel⟩
abbrev s_read_rule : Stmt := topS 69
abbrev N_read_rule : List Str := ["line", "letter", "words", "numbers", "needs", "room", "price"]
abbrev P_read_rule : List Str := ["line"]
theorem sc_read_rule : FnScope N_read_rule P_read_rule (defScope s_read_rule) := ⟨rfl, rfl, rfl, by decide +kernel, rfl, by decide +kernel, by decide +kernel⟩
abbrev s_read_move : Stmt := topS 70
abbrev N_read_move : List Str := ["line", "word", "words", "numbers"]
abbrev P_read_move : List Str := ["line"]
theorem sc_read_move : FnScope N_read_move P_read_move (defScope s_read_move) := ⟨rfl, rfl, rfl, by decide +kernel, rfl, by decide +kernel, by decide +kernel⟩

theorem par_as {s : Nat} : ∀ {l acc p q : Ln}, TL.par [s] acc l = some (p, q) → (∀ c ∈ q, c ∈ l) ∧ q.length ≤ l.length
  | [], acc, p, q, h => by cases h
  | c :: r, acc, p, q, h => by
    by_cases e : TL.pre [s] (c :: r) = true
    · rw [TL.par_hit e] at h
      cases h
      exact ⟨fun x hx => List.mem_of_mem_drop hx, by rw [List.length_drop]; omega⟩
    · rw [TL.par_miss (by simpa using e)] at h
      obtain ⟨h1, h2⟩ := par_as h
      exact ⟨fun x hx => List.mem_cons_of_mem _ (h1 x hx), by rw [List.length_cons]; omega⟩
theorem spl_as {s : Nat} : ∀ {l acc : Ln}, TL.spl [s] 0 acc l ≠ [] ∧ (TL.spl [s] 0 acc l).length ≤ l.length + 1 ∧ ∀ p ∈ TL.spl [s] 0 acc l, (∀ c ∈ p, c ∈ acc ∨ c ∈ l) ∧ p.length ≤ acc.length + l.length
  | [], acc => by
    rw [TL.spl_nil]
    exact ⟨by simp, by simp, fun p hp => by
      rw [List.mem_singleton] at hp
      subst hp
      exact ⟨fun c hc => .inl hc, by simp⟩⟩
  | c :: r, acc => by
    by_cases e : TL.pre [s] (c :: r) = true
    · rw [TL.spl_hit e]
      obtain ⟨h1, h2, h3⟩ := spl_as (s := s) (l := r) (acc := [])
      refine ⟨by simp, by show (TL.spl [s] 0 [] r).length + 1 ≤ r.length + 1 + 1; omega, fun p hp => ?_⟩
      rw [List.mem_cons] at hp
      rcases hp with rfl | hp
      · exact ⟨fun x hx => .inl hx, by omega⟩
      · obtain ⟨q1, q2⟩ := h3 p hp
        exact ⟨fun x hx => (q1 x hx).elim (fun z => by cases z) fun z => .inr (List.mem_cons_of_mem _ z), by rw [List.length_cons]; simp at q2; omega⟩
    · rw [TL.spl_miss (by simpa using e)]
      obtain ⟨h1, h2, h3⟩ := spl_as (s := s) (l := r) (acc := acc ++ [c])
      refine ⟨h1, by rw [List.length_cons]; omega, fun p hp => ?_⟩
      obtain ⟨q1, q2⟩ := h3 p hp
      refine ⟨fun x hx => ?_, by rw [List.length_cons]; rw [List.length_append] at q2; simp at q2; omega⟩
      rcases q1 x hx with z | z
      · rw [List.mem_append, List.mem_singleton] at z
        rcases z with z | z
        · exact .inl z
        · exact .inr (by rw [z]; exact List.mem_cons_self ..)
      · exact .inr (List.mem_cons_of_mem _ z)
theorem words_as {l : Ln} (h : As l) : wordsL l ≠ [] ∧ (wordsL l).length ≤ l.length + 1 ∧ ∀ p ∈ wordsL l, As p := by
  obtain ⟨h1, h2, h3⟩ := spl_as (s := 32) (l := l) (acc := [])
  exact ⟨h1, h2, fun p hp => ⟨fun c hc => h.1 c (((h3 p hp).1 c hc).elim (fun z => by cases z) id), by have := (h3 p hp).2; have := h.2; simp at *; omega⟩⟩
def spReadRooms : Sp := fun vs H Q _ => ∃ l, vs = [wV l] ∧ As l ∧ ∀ H', Ex H H' → Q (oV (readRooms l)) H'
def spReadRule : Sp := fun vs H Q _ => ∃ l, vs = [wV l] ∧ As l ∧ l.length ≤ 10000 ∧ (readRule l = none → ∀ H', Ex H H' → Q .non H') ∧ (∀ u, readRule l = some u → ∀ T H', Ex H H' → Rt H' (.ref T) u → Q (.ref T) H')
def spReadMove : Sp := fun vs H Q _ => ∃ l, vs = [wV l] ∧ As l ∧ l.length ≤ 10000 ∧ (readMove l = none → ∀ H', Ex H H' → Q .non H') ∧ (∀ m, readMove l = some m → ∀ T H', Ex H H' → Mt H' (.ref T) m → Q (.ref T) H')
theorem sp_S : (" " : Str) = SX.S [32] := rfl
theorem letter_W (x : Ln) : letterV (wV x) = (match x with | [c] => decide (c ∈ tl zLetters) | _ => false) := rfl
theorem six_neg {n k d : Nat} (hk : 1 ≤ k) : HT.sIx (n + k) d (some (-(k : Int))) = n := by
  show (if (-(k : Int)) < 0 then (-(k : Int) + ((n + k : Nat) : Int)).toNat else min (-(k : Int)).toNat (n + k)) = n
  rw [if_pos (by omega)]
  omega
theorem cut_neg3 {xs : List V} {n : Nat} (h : xs.length = n + 3) : cutV xs none (some (-3)) = xs.take n := by
  unfold cutV
  rw [h, HT.sIx_none, show (-3 : Int) = -((3 : Nat) : Int) from rfl, six_neg (by decide), List.drop_zero, Nat.sub_zero]
theorem cut_neg2 {xs : List V} {n : Nat} (h : xs.length = n + 3) : cutV xs (some (-2)) none = xs.drop (n + 1) := by
  unfold cutV
  rw [h, HT.sIx_none, show (-2 : Int) = -((2 : Nat) : Int) from rfl, show n + 3 = (n + 1) + 2 from rfl, six_neg (by decide), List.take_of_length_le (by rw [List.length_drop, h]; omega)]
theorem at_neg3 {xs : List V} {n : Nat} {v : V} (h : xs.length = n + 3) (hv : xs[n]? = some v) : atI xs (-3) = some v := by
  unfold atI ixN
  rw [if_neg (by decide), if_pos (by omega), h]
  have e : ((-3 : Int) + ((n + 3 : Nat) : Int)).toNat = n := by omega
  rw [e]
  exact hv
theorem ar_le2 (c : Nat) : ar c ≤ 2 := by
  unfold ar
  split <;> (try split) <;> omega
theorem drop_two2 {ns : List Nat} {n : Nat} (h : ns.length = n + 2) : ns.drop n = [ns.getD n 0, ns.getD (n + 1) 0] := by
  rw [List.drop_eq_getElem_cons (by omega), List.drop_eq_getElem_cons (by omega), List.drop_eq_nil_of_le (by omega), List.getD_eq_getElem?_getD, List.getD_eq_getElem?_getD, List.getElem?_eq_getElem (by omega), List.getElem?_eq_getElem (by omega)]
  rfl
theorem letter_no {x : Ln} (h : letterV (wV x) = false) : ∀ c, x = [c] → c ∉ tl zLetters := fun c e hc => by
  subst e
  have : decide (c ∈ tl zLetters) = false := h
  rw [decide_eq_true hc] at this
  cases this
theorem letter_yes {x : Ln} (h : letterV (wV x) = true) : ∃ c, x = [c] ∧ c ∈ tl zLetters := by
  match x, h with
  | [c], h => exact ⟨c, rfl, of_decide_eq_true h⟩
theorem readRule_no {l x : Ln} {ws : List Ln} (hw : wordsL l = x :: ws) (h : ∀ c, x = [c] → c ∉ tl zLetters) : readRule l = none := by
  unfold readRule
  rw [hw]
  match x, h with
  | [], _ => rfl
  | [c], h => exact if_neg fun q => h c rfl q.1
  | _ :: _ :: _, _ => rfl
theorem readRule_c {l : Ln} {c : Nat} {ws : List Ln} (hw : wordsL l = [c] :: ws) : readRule l = if c ∈ tl zLetters ∧ ws.length = ar c + 3 ∧ ws.getD (ar c) [] = arrowL then
      match numsIn (ws.take (ar c) ++ ws.drop (ar c + 1)) with
      | some ns => some ⟨c, ns.take (ar c), ns.getD (ar c) 0, ns.getD (ar c + 1) 0⟩
      | none => none
    else none := by
  unfold readRule
  rw [hw] <;> rfl
section
variable {P : Program} {w : World} {K : PySem.W.Frag} {mg : Str → Option Value} {base : Heap}
theorem ok_read_rooms {f : Addr} {fd : FuncData} (F : FnP K "read_rooms" s_read_rooms f fd) (cN : Cal P w K mg base CX0 "number_in" 1 1 spNumIn) : FnOk P w K mg base CX0 2 f fd P_read_rooms spReadRooms := by
  refine fn_ok F sc_read_rooms (fun vs H Q E ⟨_, h, _⟩ => by rw [h]; rfl) fun X vs H Q E C hfn ⟨l, hv, hl, hq⟩ => ?_
  subst hv
  have n_line : Nm X "line" 0 := C.nm rfl (by decide +kernel)
  have n_word : Nm X "word" 1 := C.nm rfl (by decide +kernel)
  have n_space : Nm X "space" 2 := C.nm rfl (by decide +kernel)
  have n_rest : Nm X "rest" 3 := C.nm rfl (by decide +kernel)
  have w_word : Ns X "word" 1 := C.ns rfl (by decide +kernel) (.inl (hfn _))
  have w_space : Ns X "space" 2 := C.ns rfl (by decide +kernel) (.inl (hfn _))
  have w_rest : Ns X "rest" 3 := C.ns rfl (by decide +kernel) (.inl (hfn _))
  have big : 100000 < sizeLine := by decide
  have hl2 := hl.2
  refine b_cons ?_
  kpc_turns
  refine e_partition ?_
  kpc_turns
  refine ⟨SX.S l, rfl, ?_⟩
  kpc_turns
  refine ⟨rfl, by rw [len_S]; omega, fun p H1 n1 e1 hp => ?_⟩
  rw [sp_S] at hp
  cases hpar : TL.par [32] [] l with
  | none =>
    rw [SX.partition_none (by simp) hpar] at hp
    refine g_tup C (SqT.of hp) ?_
    kpc_turns
    have e0 : readRooms l = none := by unfold readRooms; rw [hpar]
    rw [e0] at hq
    refine if_d (fun h => ?_) fun h => ?_
    · kpc_turns
      exact ⟨[], rfl, ⟨fun c hc => (by cases hc), by simp⟩, hq H1 e1⟩
    · kpc_turns
      exact hq H1 e1
  | some pq =>
    obtain ⟨u, q⟩ := pq
    rw [SX.partition_some (by simp) hpar] at hp
    refine g_tup C (SqT.of hp) ?_
    kpc_turns
    have e0 : readRooms l = if u = roomsL then numIn q else none := by unfold readRooms; rw [hpar]
    rw [e0] at hq
    obtain ⟨q1, q2⟩ := par_as hpar
    have er : ("rooms" : Str) = SX.S roomsL := rfl
    refine if_d (fun h => ?_) fun h => ?_
    · have h : SX.S u = SX.S roomsL := h
      rw [if_pos (SX.S_inj h)] at hq
      kpc_turns
      exact ⟨q, rfl, ⟨fun c hc => hl.1 c (q1 c hc), by omega⟩, hq H1 e1⟩
    · rw [if_neg fun e => h (by rw [er, e])] at hq
      kpc_turns
      exact hq H1 e1
theorem ok_read_rule {f : Addr} {fd : FuncData} (F : FnP K "read_rule" s_read_rule f fd) (mL : mg "len" = none) (mT : mg "tuple" = none) (cL : Cal P w K mg base CX0 "is_letter" 1 1 spIsLetter) (cA : Cal P w K mg base CX0 "arity" 1 1 spArity) (cN : Cal P w K mg base CX0 "numbers_in" 2 1 (spNumsIn K)) : FnOk P w K mg base CX0 3 f fd P_read_rule spReadRule := by
  refine fn_ok F sc_read_rule (fun vs H Q E ⟨_, h, _⟩ => by rw [h]; rfl) fun X vs H Q E C hfn ⟨l, hv, hl, hl4, h0, h1⟩ => ?_
  subst hv
  have n_line : Nm X "line" 0 := C.nm rfl (by decide +kernel)
  have n_letter : Nm X "letter" 1 := C.nm rfl (by decide +kernel)
  have n_words : Nm X "words" 2 := C.nm rfl (by decide +kernel)
  have n_numbers : Nm X "numbers" 3 := C.nm rfl (by decide +kernel)
  have n_needs : Nm X "needs" 4 := C.nm rfl (by decide +kernel)
  have n_room : Nm X "room" 5 := C.nm rfl (by decide +kernel)
  have n_price : Nm X "price" 6 := C.nm rfl (by decide +kernel)
  have w_letter : Ns X "letter" 1 := C.ns rfl (by decide +kernel) (.inl (hfn _))
  have w_words : Ns X "words" 2 := C.ns rfl (by decide +kernel) (.inl (hfn _))
  have w_numbers : Ns X "numbers" 3 := C.ns rfl (by decide +kernel) (.inl (hfn _))
  have w_needs : Ns X "needs" 4 := C.ns rfl (by decide +kernel) (.inl (hfn _))
  have w_room : Ns X "room" 5 := C.ns rfl (by decide +kernel) (.inl (hfn _))
  have w_price : Ns X "price" 6 := C.ns rfl (by decide +kernel) (.inl (hfn _))
  have big : 100000 < sizeLine := by decide
  have hl2 := hl.2
  obtain ⟨w1, w2, w3⟩ := words_as hl
  refine b_cons ?_
  kpc_turns
  refine e_split ?_
  kpc_turns
  refine ⟨SX.S l, rfl, ?_⟩
  kpc_turns
  refine ⟨rfl, by rw [len_S]; omega, fun p H1 n1 e1 hp => ?_⟩
  rw [sp_S] at hp
  rw [SX.split_S (by simp) (by decide)] at hp
  have ew : TL.spl [32] 0 [] l = wordsL l := rfl
  rw [ew] at hp
  cases hw : wordsL l with
  | nil => exact absurd hw w1
  | cons x ws =>
  rw [hw] at hp w2 w3
  rw [List.length_cons] at w2
  refine g_star1 C (x := wV x) (ys := ws.map wV) (.inr (SqL.of (by rw [hp, List.map_cons, List.map_cons, List.map_map]; rfl))) (by rw [List.length_map]; omega) fun p2 H2 n2 e2 hp2 => ?_
  kpc_turns
  have hx := w3 x (List.mem_cons_self ..)
  have e12 := e1.trans e2
  refine ⟨wV x, rfl, .flat rfl, fun z e => by cases e; rw [len_S]; exact hx.2, _, rfl, ?_⟩
  cases hlv : letterV (wV x) with
  | false =>
    have e0 : readRule l = none := readRule_no hw (letter_no hlv)
    refine if_ct rfl (if_ct rfl (b_cons ?_))
    kpc_turns
    exact h0 e0 H2 e12
  | true =>
    obtain ⟨c, rfl, hc⟩ := letter_yes hlv
    refine if_cf rfl ?_
    kpc_turns
    refine ⟨c, rfl, ?_⟩
    kpc_turns
    rw [List.length_map]
    have er := readRule_c hw
    by_cases hlen : ws.length = ar c + 3
    · refine if_cf (by rw [hlen]; simp) ?_
      kpc_turns
      have hlv3 : (ws.map wV).length = ar c + 3 := by rw [List.length_map, hlen]
      have hlt : ar c < ws.length := by omega
      have hg : ws.getD (ar c) [] = ws[ar c] := by rw [List.getD_eq_getElem?_getD, List.getElem?_eq_getElem hlt]; rfl
      refine x_l (v := wV ws[ar c]) (SqL.of hp2) (at_neg3 hlv3 (by rw [List.getElem?_map, List.getElem?_eq_getElem hlt]; rfl)) ?_
      kpc_turns
      refine o_neS (u := SX.S ws[ar c]) ?_
      refine ⟨_, rfl, ?_⟩
      have ea : ("->" : Str) = SX.S arrowL := rfl
      by_cases hge : ws[ar c] = arrowL
      · refine if_cf (by rw [hge]; decide) (b_nil ?_)
        rw [if_pos ⟨hc, hlen, by rw [hg]; exact hge⟩] at er
        refine b_cons ?_
        kpc_turns
        refine l_sl (SqL.of hp2) fun p3 H3 n3 e3 hp3 => ?_
        rw [cut_neg3 hlv3] at hp3
        kpc_turns
        refine l_sl (SqL.of (e3 _ _ hp2)) fun p4 H4 n4 e4 hp4 => ?_
        rw [cut_neg2 hlv3] at hp4
        kpc_turns
        refine o_addL (e4 _ _ hp3) hp4 (by simp; omega) fun p5 H5 n5 e5 hp5 => ?_
        rw [← List.map_take, ← List.map_drop, ← List.map_append] at hp5
        kpc_turns
        have hws : ∀ l ∈ ws.take (ar c) ++ ws.drop (ar c + 1), As l := fun l hl => by
          rw [List.mem_append] at hl
          exact w3 l (List.mem_cons_of_mem _ (hl.elim List.mem_of_mem_take List.mem_of_mem_drop))
        have e15 := e12.trans (e3.trans (e4.trans e5))
        refine ⟨p5, _, rfl, by rw [← C.frg]; exact SqL.of hp5, hws, by simp; omega, fun hn H6 e6 => ?_, fun ns hn p6 H6 n6 e6 hp6 => ?_⟩
        · rw [hn] at er
          kpc_turns
          exact h0 er H6 (e15.trans e6)
        · rw [hn] at er
          have hnl := numsIn_len hn
          have hnl2 : ns.length = ar c + 2 := by rw [hnl]; simp; omega
          have ha2 := ar_le2 c
          kpc_turns
          have t0 : ((ns.map nV).drop 0).take ((ns.map nV).length + 1 - 3) = (ns.take (ar c)).map nV := by
            rw [List.drop_zero, List.length_map, hnl2, List.map_take]
            rfl
          have d1 : ∀ p7 : Addr, (ns.map nV).take 0 ++ [.ref p7] ++ ((ns.map nV).drop 0).drop ((ns.map nV).length + 1 - 3) = [.ref p7, nV (ns.getD (ar c) 0), nV (ns.getD (ar c + 1) 0)] := fun p7 => by
            have e : (ns.map nV).length + 1 - 3 = ar c := by rw [List.length_map, hnl2]; rfl
            rw [List.drop_zero, e, ← List.map_drop, drop_two2 hnl2]
            rfl
          refine g_star (n := 3) (i := 0) C (.inr (SqL.of hp6)) (by decide) (by rw [List.length_map]; omega) (by rw [List.length_map]; omega) fun p7 H7 n7 e7 hp7 => ?_
          rw [t0] at hp7
          rw [d1]
          refine gs_star (g_name w_needs ?_)
          kpc_turns
          refine n_tup ?_
          kpc_turns
          refine c_tupL (SqL.of hp7) fun p8 H8 n8 e8 hp8 => ?_
          kpc_turns
          refine ⟨by show 4 ≤ sizeLine; decide, fun p9 H9 n9 e9 hp9 => ?_⟩
          exact h1 _ er p9 H9 (e15.trans (e6.trans (e7.trans (e8.trans e9)))) ⟨p9, p8, rfl, hp9, e9 _ _ hp8⟩
      · have e0 : readRule l = none := by rw [er, if_neg fun h => hge (by rw [← hg]; exact h.2.2)]
        refine if_ct (by rw [ea, decide_eq_false fun e => hge (SX.S_inj e)]; rfl) (b_cons ?_)
        kpc_turns
        exact h0 e0 H2 e12
    · have e0 : readRule l = none := by rw [er, if_neg fun h => hlen h.2.1]
      refine if_ct (by simp; omega) (if_ct rfl (b_cons ?_))
      kpc_turns
      exact h0 e0 H2 e12
theorem ok_read_move {f : Addr} {fd : FuncData} (F : FnP K "read_move" s_read_move f fd) (mL : mg "len" = none) (mT : mg "tuple" = none) (cN : Cal P w K mg base CX0 "numbers_in" 2 1 (spNumsIn K)) : FnOk P w K mg base CX0 3 f fd P_read_move spReadMove := by
  refine fn_ok F sc_read_move (fun vs H Q E ⟨_, h, _⟩ => by rw [h]; rfl) fun X vs H Q E C hfn ⟨l, hv, hl, hl4, h0, h1⟩ => ?_
  subst hv
  have n_line : Nm X "line" 0 := C.nm rfl (by decide +kernel)
  have n_word : Nm X "word" 1 := C.nm rfl (by decide +kernel)
  have n_words : Nm X "words" 2 := C.nm rfl (by decide +kernel)
  have n_numbers : Nm X "numbers" 3 := C.nm rfl (by decide +kernel)
  have w_word : Ns X "word" 1 := C.ns rfl (by decide +kernel) (.inl (hfn _))
  have w_words : Ns X "words" 2 := C.ns rfl (by decide +kernel) (.inl (hfn _))
  have w_numbers : Ns X "numbers" 3 := C.ns rfl (by decide +kernel) (.inl (hfn _))
  have big : 100000 < sizeLine := by decide
  have hl2 := hl.2
  obtain ⟨w1, w2, w3⟩ := words_as hl
  refine b_cons ?_
  kpc_turns
  refine e_split ?_
  kpc_turns
  refine ⟨SX.S l, rfl, ?_⟩
  kpc_turns
  refine ⟨rfl, by rw [len_S]; omega, fun p H1 n1 e1 hp => ?_⟩
  rw [sp_S] at hp
  rw [SX.split_S (by simp) (by decide)] at hp
  have ew : TL.spl [32] 0 [] l = wordsL l := rfl
  rw [ew] at hp
  cases hw : wordsL l with
  | nil => exact absurd hw w1
  | cons x ws =>
  rw [hw] at hp w2 w3
  rw [List.length_cons] at w2
  refine g_star1 C (x := wV x) (ys := ws.map wV) (.inr (SqL.of (by rw [hp, List.map_cons, List.map_cons, List.map_map]; rfl))) (by rw [List.length_map]; omega) fun p2 H2 n2 e2 hp2 => ?_
  kpc_turns
  have er : readMove l = if x = moveL then match numsIn ws with
      | some [a, b, c] => some (a, b, c)
      | _ => none
    else none := by
    unfold readMove
    rw [hw] <;> rfl
  have e12 := e1.trans e2
  have em : ("move" : Str) = SX.S moveL := rfl
  refine ⟨p2, ws, rfl, by rw [← C.frg]; exact SqL.of hp2, fun l hl => w3 l (List.mem_cons_of_mem _ hl), by omega, fun hn H3 e3 => ?_, fun ns hn p3 H3 n3 e3 hp3 => ?_⟩
  · have e0 : readMove l = none := by rw [er, hn]; split <;> rfl
    refine b_cons ?_
    kpc_turns
    refine o_neS (u := SX.S x) ?_
    refine ⟨_, rfl, ?_⟩
    by_cases hx : x = moveL
    · refine if_cf (by rw [hx]; decide) ?_
      kpc_turns
      exact h0 e0 H3 (e12.trans e3)
    · refine if_ct (by rw [em, decide_eq_false fun e => hx (SX.S_inj e)]; rfl) (if_ct rfl (b_cons ?_))
      kpc_turns
      exact h0 e0 H3 (e12.trans e3)
  · refine b_cons ?_
    kpc_turns
    refine o_neS (u := SX.S x) ?_
    refine ⟨_, rfl, ?_⟩
    by_cases hx : x = moveL
    · rw [if_pos hx, hn] at er
      refine if_cf (by rw [hx]; decide) ?_
      kpc_turns
      rw [List.length_map]
      by_cases hl3 : ns.length = 3
      · match ns, hl3 with
        | [a, b, c], _ =>
          refine if_cf rfl (b_nil (b_cons ?_))
          kpc_turns
          refine c_tupL (SqL.of hp3) fun p4 H4 n4 e4 hp4 => ?_
          exact h1 _ er p4 H4 (e12.trans (e3.trans e4)) ⟨p4, rfl, hp4⟩
      · have e0 : readMove l = none := by
          rw [er]
          match ns, hl3 with
          | [], _ => rfl
          | [a], _ => rfl
          | [a, b], _ => rfl
          | [a, b, c], h => exact absurd rfl h
          | _ :: _ :: _ :: _ :: _, _ => rfl
        refine if_ct (by simp; omega) (b_cons ?_)
        kpc_turns
        exact h0 e0 H3 (e12.trans e3)
    · have e0 : readMove l = none := by rw [er, if_neg hx]
      refine if_ct (by rw [em, decide_eq_false fun e => hx (SX.S_inj e)]; rfl) (if_ct rfl (b_cons ?_))
      kpc_turns
      exact h0 e0 H3 (e12.trans e3)
end

/-! the lines of a chooser's text, walked -/
abbrev s_read_lines : Stmt := topS 71
abbrev N_read_lines : List Str := ["lines", "rooms", "rules", "moves", "at", "line", "rule", "move"]
abbrev P_read_lines : List Str := ["lines"]
theorem sc_read_lines : FnScope N_read_lines P_read_lines (defScope s_read_lines) := ⟨rfl, rfl, rfl, by decide +kernel, rfl, by decide +kernel, by decide +kernel⟩

def LnsO (H : Hp) (a : Addr) (ls : List Ln) : Prop := H a = some (.lst (ls.map wV)) ∧ (∀ l ∈ ls, As l ∧ l.length ≤ 10000) ∧ ls.length ≤ 10000
def spReadLines (CP : Addr) : Sp := fun vs H Q E => ∃ (a : Addr) (ls : List Ln), vs = [.ref a] ∧ LnsO H a ls ∧ (∀ k, rdAll ls = .inl k → Out E H CP "ParseError" "line" (.int (k : Nat))) ∧
  (∀ r us ms, rdAll ls = .inr (r, us, ms) → ∀ T rl ml rxs mxs H', Ex H H' → H' T = some (.tup [nV r, .ref rl, .ref ml]) → H' rl = some (.lst rxs) → Paired (Rt H') rxs us → H' ml = some (.lst mxs) → Paired (Mt H') mxs ms → Q (.ref T) H')
theorem sh_lns {ls : List Ln} (h : ∀ l ∈ ls, As l) : SeqAt.shaped (.list (ls.map fun l => PyData.str (SX.S l))) = true := sh_lst (n := 0) (by decide) fun x hx => ⟨by
  show PyData.strOk (SX.S x) = true
  unfold PyData.strOk
  rw [← Array.all_toList, List.all_eq_true]
  intro c hc
  have := (h x hx).1 c hc
  simp
  omega, Nat.le_refl _⟩
theorem dp_lns {K : PySem.W.Frag} {H : Hp} : ∀ ls : List Ln, DpAll K H (ls.map wV) (ls.map fun l => PyData.str (SX.S l))
  | [] => .nil
  | l :: ls => .cons (.str _) (dp_lns ls)
theorem rdLines_cons (l : Ln) (ls : List Ln) (rs : List Rul) (ms : List Mv) (n : Nat) : rdLines (l :: ls) rs ms n = (match (if ms = [] then readRule l else none), readMove l with
    | some u, _ => rdLines ls (rs ++ [u]) ms (n + 1)
    | none, some m => rdLines ls rs (ms ++ [m]) (n + 1)
    | none, none => .inl n) := rfl
theorem free_ex {H H' : Hp} {p : Addr} (e : Ex H H') (h : H' p = none) : H p = none := by
  cases h2 : H p with
  | none => rfl
  | some o => rw [e _ _ h2] at h; cases h
/-- between the lines -/
structure RL (H0 : Hp) (L rl ml : Addr) (ls : List Ln) (H' : Hp) (n : Nat) (rxs mxs : List V) (us : List Rul) (ms : List Mv) : Prop where
  e : Ex H0 H'
  hL : H' L = some (.lst (ls.map wV))
  hrl : H' rl = some (.lst rxs)
  hru : Paired (Rt H') rxs us
  hml : H' ml = some (.lst mxs)
  hmv : Paired (Mt H') mxs ms
  rd : rdLines (ls.drop n) us ms (n + 1) = rdLines ls [] [] 1
  len : us.length + ms.length ≤ n
section
variable {H0 H' H'' : Hp} {L rl ml : Addr} {ls : List Ln} {n : Nat} {rxs mxs : List V} {us : List Rul} {ms : List Mv}
theorem RL.ex (c : RL H0 L rl ml ls H' n rxs mxs us ms) (e : Ex H' H'') : RL H0 L rl ml ls H'' n rxs mxs us ms :=
  ⟨c.e.trans e, e _ _ c.hL, e _ _ c.hrl, paired_imp (fun _ _ h => h.ex e) c.hru, e _ _ c.hml, paired_imp (fun _ _ h => h.tk (TK.ex e)) c.hmv, c.rd, c.len⟩
theorem RL.move {T : Addr} {m : Mv} (c : RL H0 L rl ml ls H' n rxs mxs us ms) (h : rdLines (ls.drop n) us ms (n + 1) = rdLines (ls.drop (n + 1)) us (ms ++ [m]) (n + 1 + 1)) (nml : H0 ml = none) (h1 : rl ≠ ml) (h2 : ml ≠ L) (x : Xb ml H' H'') (hm : H'' ml = some (.lst (mxs ++ [.ref T]))) (hT : Mt H' (.ref T) m) :
    RL H0 L rl ml ls H'' (n + 1) rxs (mxs ++ [.ref T]) us (ms ++ [m]) := by
  have t := TK.xb c.hml x
  exact ⟨Xb.ex c.e nml x, x _ _ (fun z => h2 z.symm) c.hL, x _ _ h1 c.hrl, paired_imp (fun _ _ h => h.tk t) c.hru, hm, paired_app (paired_imp (fun _ _ h => h.tk t) c.hmv) (.cons (hT.tk t) .nil), h.symm.trans c.rd, by
    have := c.len
    rw [List.length_append]
    show us.length + (ms.length + 1) ≤ n + 1
    omega⟩
theorem RL.rule {T : Addr} {u : Rul} (c : RL H0 L rl ml ls H' n rxs mxs us ms) (h : rdLines (ls.drop n) us ms (n + 1) = rdLines (ls.drop (n + 1)) (us ++ [u]) ms (n + 1 + 1)) (nrl : H0 rl = none) (h1 : rl ≠ ml) (h2 : rl ≠ L) (x : Xb rl H' H'') (hm : H'' rl = some (.lst (rxs ++ [.ref T]))) (hT : Rt H' (.ref T) u) :
    RL H0 L rl ml ls H'' (n + 1) (rxs ++ [.ref T]) mxs (us ++ [u]) ms := by
  have t := TK.xb c.hrl x
  exact ⟨Xb.ex c.e nrl x, x _ _ (fun z => h2 z.symm) c.hL, hm, paired_app (paired_imp (fun _ _ h => h.tk t) c.hru) (.cons (hT.tk t) .nil), x _ _ (fun z => h1 z.symm) c.hml, paired_imp (fun _ _ h => h.tk t) c.hmv, h.symm.trans c.rd, by
    have := c.len
    rw [List.length_append]
    show us.length + 1 + ms.length ≤ n + 1
    omega⟩
end
theorem rdLines_none {l : Ln} {ms : List Mv} (h : (if ms = [] then readRule l else none) = none) (hm : readMove l = none) (ls : List Ln) (us : List Rul) (n : Nat) : rdLines (l :: ls) us ms n = .inl n := by rw [rdLines_cons, h, hm]
theorem rdLines_move {l : Ln} {ms : List Mv} {m : Mv} (h : (if ms = [] then readRule l else none) = none) (hm : readMove l = some m) (ls : List Ln) (us : List Rul) (n : Nat) : rdLines (l :: ls) us ms n = rdLines ls us (ms ++ [m]) (n + 1) := by rw [rdLines_cons, h, hm]
theorem rdLines_rule {l : Ln} {ms : List Mv} {u : Rul} (h : (if ms = [] then readRule l else none) = some u) (ls : List Ln) (us : List Rul) (n : Nat) : rdLines (l :: ls) us ms n = rdLines ls (us ++ [u]) ms (n + 1) := by rw [rdLines_cons, h]
section
variable {P : Program} {w : World} {K : PySem.W.Frag} {mg : Str → Option Value} {base : Heap}
theorem ok_read_lines {CP : Addr} {f : Addr} {fd : FuncData} (F : FnP K "read_lines" s_read_lines f fd) (mE : mg "enumerate" = none) (x_ParseError : ExK P w K mg base "ParseError" CP (fs1 "ParseError" "line")) (cRo : Cal P w K mg base CX0 "read_rooms" 2 1 spReadRooms) (cRu : Cal P w K mg base CX0 "read_rule" 3 1 spReadRule) (cMo : Cal P w K mg base CX0 "read_move" 3 1 spReadMove) :
    FnOk P w K mg base (L2.CX P w) 5 f fd P_read_lines (spReadLines CP) := by
  refine fn_okR F sc_read_lines (fun vs H Q E ⟨_, _, h, _⟩ => by rw [h]; rfl) fun X vs H Q E C hfn tk hcd hql ⟨a, ls, hv, ⟨ha, has, hn⟩, he, hq⟩ => ?_
  subst hv
  have n_lines : Nm X "lines" 0 := C.nm rfl (by decide +kernel)
  have n_rooms : Nm X "rooms" 1 := C.nm rfl (by decide +kernel)
  have n_rules : Nm X "rules" 2 := C.nm rfl (by decide +kernel)
  have n_moves : Nm X "moves" 3 := C.nm rfl (by decide +kernel)
  have n_at : Nm X "at" 4 := C.nm rfl (by decide +kernel)
  have n_line : Nm X "line" 5 := C.nm rfl (by decide +kernel)
  have n_rule : Nm X "rule" 6 := C.nm rfl (by decide +kernel)
  have n_move : Nm X "move" 7 := C.nm rfl (by decide +kernel)
  have w_rooms : Ns X "rooms" 1 := C.ns rfl (by decide +kernel) (.inl (hfn _))
  have w_rules : Ns X "rules" 2 := C.ns rfl (by decide +kernel) (.inl (hfn _))
  have w_moves : Ns X "moves" 3 := C.ns rfl (by decide +kernel) (.inl (hfn _))
  have w_at : Ns X "at" 4 := C.ns rfl (by decide +kernel) (.inl (hfn _))
  have w_line : Ns X "line" 5 := C.ns rfl (by decide +kernel) (.inl (hfn _))
  have w_rule : Ns X "rule" 6 := C.ns rfl (by decide +kernel) (.inl (hfn _))
  have w_move : Ns X "move" 7 := C.ns rfl (by decide +kernel) (.inl (hfn _))
  have big : 100000 < sizeLine := by decide
  refine b_cons ?_
  kpc_turns
  refine n_lst ?_
  kpc_turns
  refine ⟨Nat.zero_le _, fun p1 H1 n1 e1 hp1 => ?_⟩
  have hall : ∀ l ∈ ls, As l := fun l hl => (has l hl).1
  refine o_neD C (d := .list (ls.map fun l => PyData.str (SX.S l))) (e := .list []) (.lst (SqL.of (e1 _ _ ha)) (dp_lns ls)) (.lst (SqL.of hp1) .nil) (sh_lns hall) rfl ?_
  refine ⟨_, rfl, ?_⟩
  cases ls with
  | nil =>
    refine if_cf rfl ?_
    kpc_turns
    refine s_raise C x_ParseError tk (by decide) ?_
    kpc_turns
    intro d nd
    exact he 0 rfl d _ (e1.trans (Evl.Ex.new nd)) upd_same
  | cons l0 ls =>
  refine if_ct rfl ?_
  kpc_turns
  have ha1 := e1 _ _ ha
  refine x_l (v := wV l0) (SqL.of ha1) (at_ok (by decide) rfl) ?_
  kpc_turns
  refine ⟨l0, rfl, hall l0 (List.mem_cons_self ..), fun H2 e2 => ?_⟩
  have e12 := e1.trans e2
  have er : rdAll (l0 :: ls) = (match readRooms l0 with
    | none => (Sum.inl 0 : Nat ⊕ (Nat × List Rul × List Mv))
    | some r => match rdLines ls [] [] 1 with
      | .inl k => .inl k
      | .inr (us, ms) => .inr (r, us, ms)) := rfl
  refine b_cons ?_
  cases hr : readRooms l0 with
  | none =>
    rw [hr] at er
    kpc_turns
    refine s_raise C x_ParseError tk (by decide) ?_
    kpc_turns
    intro d nd
    exact he 0 er d _ (e12.trans (Evl.Ex.new nd)) upd_same
  | some r =>
  rw [hr] at er
  kpc_turns
  refine n_lst ?_
  kpc_turns
  refine ⟨Nat.zero_le _, fun rl H3 n3 e3 hrl => ?_⟩
  refine n_lst ?_
  kpc_turns
  refine ⟨Nat.zero_le _, fun ml H4 n4 e4 hml => ?_⟩
  have n4' : H2 ml = none := free_ex e3 n4
  have hne1 : rl ≠ ml := fun e => by rw [← e, hrl] at n4; cases n4
  refine b_cons ?_
  refine s_for C (i_enum (C.gl (by decide +kernel)) (by rw [C.mgl]; exact mE) ?_)
  kpc_turns
  refine l_sl (SqL.of (e4 _ _ (e3 _ _ (e2 _ _ ha1)))) fun L H5 n5 e5 hL => ?_
  have hL : H5 L = some (.lst (ls.map wV)) := by
    rw [hL, show (1 : Int) = ((1 : Nat) : Int) from rfl, cutV_drop]
    rfl
  have hneL : rl ≠ L := fun e => by rw [← e, e4 _ _ hrl] at n5; cases n5
  have hneM : ml ≠ L := fun e => by rw [← e, hml] at n5; cases n5
  refine ⟨L, _, rfl, SqL.of hL, _, _, _, fun n σ H' => ∃ us ms rxs mxs o4 o5 o6 o7, σ = [some (.ref a), some (nV r), some (.ref rl), some (.ref ml), o4, o5, o6, o7] ∧ RL H2 L rl ml ls H' n rxs mxs us ms, walk_enum L _,
    ⟨[], [], [], [], _, _, _, _, rfl, ⟨e3.trans (e4.trans e5), hL, e5 _ _ (e4 _ _ hrl), .nil, e5 _ _ hml, .nil, rfl, Nat.le_refl _⟩⟩, fun _ _ H' _ ⟨_, _, _, _, _, _, _, _, _, c⟩ => SqL.of c.hL, ?_, ?_⟩
  · rintro n x σ H6 H7 hi ⟨us, ms, rxs, mxs, o4, o5, o6, o7, rfl, c6⟩ e7 ⟨T, y, rfl, hy, hT⟩
    rw [List.getElem?_map] at hy
    obtain ⟨l, hl, rfl⟩ := Option.map_eq_some_iff.mp hy
    have hlm := List.mem_cons_of_mem l0 (List.mem_of_getElem? hl)
    obtain ⟨hl1, hl2⟩ := has l hlm
    have hnl := (List.getElem?_eq_some_iff.mp hl).1
    have hdr : ls.drop n = l :: ls.drop (n + 1) := by
      rw [List.drop_eq_getElem_cons hnl]
      congr 1
      exact (List.getElem?_eq_some_iff.mp hl).2
    have c7 := c6.ex e7
    rw [List.length_cons] at hn
    refine g_tup C (SqT.of hT) ?_
    kpc_turns
    refine n_lst ?_
    kpc_turns
    refine ⟨Nat.zero_le _, fun p8 H8 n8 e8 hp8 => ?_⟩
    have c8 := c7.ex e8
    refine o_eqD C (.lst (SqL.of c8.hml) (dp_paired (f := mvD) (fun v x h => h.dp) c8.hmv)) (.lst (SqL.of hp8) .nil) (sh_mvs ms) rfl ?_
    rw [show PyData.eqv (.list (ms.map mvD)) (.list []) = decide (ms = []) from eqv_mvs ms []]
    refine ⟨_, rfl, ?_⟩
    by_cases hms : ms = []
    · refine if_ct (decide_eq_true hms) ?_
      kpc_turns
      refine ⟨l, rfl, hl1, hl2, fun hn0 H9 e9 => ?_, fun u hu T2 H9 e9 hT2 => ?_⟩
      · have hro : (if ms = [] then readRule l else none) = none := by rw [if_pos hms, hn0]
        have c9 := c8.ex e9
        refine b_cons ?_
        kpc_turns
        refine ⟨l, rfl, hl1, hl2, fun hm H10 e10 => ?_, fun m hm T2 H10 e10 hT2 => ?_⟩
        · kpc_turns
          refine s_raise C x_ParseError tk (by decide) ?_
          kpc_turns
          intro d nd
          have c0 := rdLines_none hro hm (ls.drop (n + 1)) us (n + 1)
          rw [← hdr, c7.rd] at c0
          rw [c0] at er
          have hE := he (n + 1) er
          rw [Int.natCast_add] at hE
          exact hE d _ ((((e12.trans c9.e)).trans e10).trans (Evl.Ex.new nd)) upd_same
        · have c10 := c9.ex e10
          kpc_turns
          refine ⟨ml, _, rfl, c10.hml, ?_⟩
          kpc_turns
          refine ⟨_, c10.hml, by have := c10.len; have := paired_len c10.hmv; omega, fun H11 x11 hml11 => ?_⟩
          kpc_turns
          exact ⟨us, ms ++ [m], rxs, _, _, _, _, _, rfl, c10.move (by rw [hdr]; exact rdLines_move hro hm ..) n4' hne1 hneM x11 hml11 hT2⟩
      · have hro : (if ms = [] then readRule l else none) = some u := by rw [if_pos hms, hu]
        have c9 := c8.ex e9
        refine b_cons ?_
        kpc_turns
        refine ⟨l, rfl, hl1, hl2, fun hm H10 e10 => ?_, fun m hm T3 H10 e10 hT3 => ?_⟩
        · have c10 := c9.ex e10
          kpc_turns
          refine ⟨rl, _, rfl, c10.hrl, ?_⟩
          kpc_turns
          refine ⟨_, c10.hrl, by have := c10.len; have := paired_len c10.hru; omega, fun H11 x11 hrl11 => ?_⟩
          kpc_turns
          exact ⟨us ++ [u], ms, _, mxs, _, _, _, _, rfl, c10.rule (by rw [hdr]; exact rdLines_rule hro ..) n3 hne1 hneL x11 hrl11 (hT2.ex e10)⟩
        · have c10 := c9.ex e10
          kpc_turns
          refine ⟨rl, _, rfl, c10.hrl, ?_⟩
          kpc_turns
          refine ⟨_, c10.hrl, by have := c10.len; have := paired_len c10.hru; omega, fun H11 x11 hrl11 => ?_⟩
          kpc_turns
          exact ⟨us ++ [u], ms, _, mxs, _, _, _, _, rfl, c10.rule (by rw [hdr]; exact rdLines_rule hro ..) n3 hne1 hneL x11 hrl11 (hT2.ex e10)⟩
    · refine if_cf (decide_eq_false hms) ?_
      have hro : (if ms = [] then readRule l else none) = none := if_neg hms
      have c9 := c8
      kpc_turns
      kpc_turns
      refine ⟨l, rfl, hl1, hl2, fun hm H10 e10 => ?_, fun m hm T2 H10 e10 hT2 => ?_⟩
      · kpc_turns
        refine s_raise C x_ParseError tk (by decide) ?_
        kpc_turns
        intro d nd
        have c0 := rdLines_none hro hm (ls.drop (n + 1)) us (n + 1)
        rw [← hdr, c7.rd] at c0
        rw [c0] at er
        have hE := he (n + 1) er
        rw [Int.natCast_add] at hE
        exact hE d _ ((((e12.trans c9.e)).trans e10).trans (Evl.Ex.new nd)) upd_same
      · have c10 := c9.ex e10
        kpc_turns
        refine ⟨ml, _, rfl, c10.hml, ?_⟩
        kpc_turns
        refine ⟨_, c10.hml, by have := c10.len; have := paired_len c10.hmv; omega, fun H11 x11 hml11 => ?_⟩
        kpc_turns
        exact ⟨us, ms ++ [m], rxs, _, _, _, _, _, rfl, c10.move (by rw [hdr]; exact rdLines_move hro hm ..) n4' hne1 hneM x11 hml11 hT2⟩
  · rintro σ H6 ⟨us, ms, rxs, mxs, o4, o5, o6, o7, rfl, c6⟩
    rw [List.length_map] at c6
    kpc_turns
    refine n_tup ?_
    kpc_turns
    refine ⟨by show 3 ≤ sizeLine; decide, fun T H7 n7 e7 hT => ?_⟩
    have c7 := c6.ex e7
    have rd := c7.rd
    rw [List.drop_length] at rd
    rw [← rd] at er
    exact hq r us ms er T rl ml rxs mxs H7 (e12.trans c7.e) hT c7.hrl c7.hru c7.hml c7.hmv
end

/-! parse_chooser, walked: what the maker is asked is left open -/
abbrev s_parse_chooser : Stmt := topS 72
abbrev N_parse_chooser : List Str := ["text", "lines", "rest", "rooms", "rules", "moves"]
abbrev P_parse_chooser : List Str := ["text"]
theorem sc_parse_chooser : FnScope N_parse_chooser P_parse_chooser (defScope s_parse_chooser) := ⟨rfl, rfl, rfl, by decide +kernel, rfl, by decide +kernel, by decide +kernel⟩

def TxtO (T : Ln) (ls : List Ln) (rest : Ln) : Prop := T = textL ls ++ rest ∧ (∀ l ∈ ls, (10 : Nat) ∉ l) ∧ (10 : Nat) ∉ rest ∧ (∀ l ∈ ls, As l ∧ l.length ≤ 10000) ∧ As rest ∧ ls.length ≤ 10000 ∧ T.length ≤ 1000000
def spParse (CP CC : Addr) (sp : Sp) : Sp := fun vs H Q E => ∃ (T rest : Ln) (ls : List Ln), vs = [wV T] ∧ TxtO T ls rest ∧ (∀ k, rdAll ls = .inl k → Out E H CP "ParseError" "line" (.int (k : Nat))) ∧
  (∀ x, rdAll ls = .inr x → rest ≠ [] → Out E H CP "ParseError" "line" (.int (ls.length : Nat))) ∧
  (∀ r us ms, rdAll ls = .inr (r, us, ms) → rest = [] → ∀ rl ml rxs mxs H', Ex H H' → H' rl = some (.lst rxs) → Paired (Rt H') rxs us → H' ml = some (.lst mxs) → Paired (Mt H') mxs ms → ∀ a dx, H' a = none → H' dx = none → dx ≠ a →
    sp [.ref a, nV r, .ref rl, .ref ml] (upd (upd H' dx (.own a)) a (.ins CC dx [])) (fun u H3 => u = .non ∧ Q (.ref a) H3) E)
section
variable {P : Program} {w : World} {K : PySem.W.Frag} {mg : Str → Option Value} {base : Heap}
theorem ok_parse {CP CC : Addr} {sp : Sp} {f : Addr} {fd : FuncData} (F : FnP K "parse_chooser" s_parse_chooser f fd) (mL : mg "len" = none) (x_ParseError : ExK P w K mg base "ParseError" CP (fs1 "ParseError" "line")) (cRd : Cal P w K mg base (L2.CX P w) "read_lines" 5 1 (spReadLines CP)) (cC : CalK P w K mg base (L2.CX P w) "Chooser" CC 5 2 ["moves"] sp) :
    FnOk P w K mg base (L2.CX P w) 7 f fd P_parse_chooser (spParse CP CC sp) := by
  refine fn_okR F sc_parse_chooser (fun vs H Q E ⟨_, _, _, h, _⟩ => by rw [h]; rfl) fun X vs H Q E C hfn tk hcd hql ⟨T, rest, ls, hv, ⟨hT, hls, hrest, has, hra, hn, hTl⟩, he, he2, hq⟩ => ?_
  subst hv
  have n_text : Nm X "text" 0 := C.nm rfl (by decide +kernel)
  have n_lines : Nm X "lines" 1 := C.nm rfl (by decide +kernel)
  have n_rest : Nm X "rest" 2 := C.nm rfl (by decide +kernel)
  have n_rooms : Nm X "rooms" 3 := C.nm rfl (by decide +kernel)
  have n_rules : Nm X "rules" 4 := C.nm rfl (by decide +kernel)
  have n_moves : Nm X "moves" 5 := C.nm rfl (by decide +kernel)
  have w_lines : Ns X "lines" 1 := C.ns rfl (by decide +kernel) (.inl (hfn _))
  have w_rest : Ns X "rest" 2 := C.ns rfl (by decide +kernel) (.inl (hfn _))
  have w_rooms : Ns X "rooms" 3 := C.ns rfl (by decide +kernel) (.inl (hfn _))
  have w_rules : Ns X "rules" 4 := C.ns rfl (by decide +kernel) (.inl (hfn _))
  have w_moves : Ns X "moves" 5 := C.ns rfl (by decide +kernel) (.inl (hfn _))
  have big : 1100000 < sizeLine := by decide
  refine b_cons ?_
  kpc_turns
  refine e_split ?_
  kpc_turns
  refine ⟨SX.S T, rfl, ?_⟩
  kpc_turns
  refine ⟨rfl, by rw [len_S]; omega, fun p H1 n1 e1 hp => ?_⟩
  have e0 : ("\n" : Str) = SX.S [10] := rfl
  rw [e0, SX.split_S (by simp) (by decide), hT, split_text hls hrest, List.map_map] at hp
  have hp : H1 p = some (.lst ((ls ++ [rest]).map wV)) := hp
  have hl1 : ((ls ++ [rest]).map wV).length = ls.length + 1 := by rw [List.length_map, List.length_append]; rfl
  have t0 : (((ls ++ [rest]).map wV).drop 0).take (((ls ++ [rest]).map wV).length + 1 - 2) = ls.map wV := by
    rw [List.drop_zero, hl1, List.map_append, show ls.length + 1 + 1 - 2 = ls.length from by omega]
    have : (ls.map wV).length = ls.length := List.length_map ..
    rw [← this, List.take_left]
  have d1 : ∀ p7 : Addr, ((ls ++ [rest]).map wV).take 0 ++ [.ref p7] ++ (((ls ++ [rest]).map wV).drop 0).drop (((ls ++ [rest]).map wV).length + 1 - 2) = [.ref p7, wV rest] := fun p7 => by
    rw [List.drop_zero, hl1, List.map_append, show ls.length + 1 + 1 - 2 = ls.length from by omega]
    have : (ls.map wV).length = ls.length := List.length_map ..
    rw [← this, List.drop_left]
    rfl
  refine g_star (n := 2) (i := 0) C (.inr (SqL.of hp)) (by decide) (by rw [hl1]; omega) (by rw [hl1]; omega) fun p2 H2 n2 e2 hp2 => ?_
  rw [t0] at hp2
  rw [d1]
  refine gs_star (g_name w_lines ?_)
  kpc_turns
  have e12 := e1.trans e2
  refine ⟨p2, ls, rfl, ⟨hp2, has, hn⟩, fun k hk d H' e' hd => he k hk d H' (e12.trans e') hd, fun r us ms hr T3 rl ml rxs mxs H3 e3 hT3 hrl hru hml hmv => ?_⟩
  refine g_tup C (SqT.of hT3) ?_
  kpc_turns
  refine o_neS (u := SX.S rest) ?_
  refine ⟨_, rfl, ?_⟩
  have e13 := e12.trans e3
  have ez : ("" : Str) = SX.S [] := rfl
  by_cases hre : rest = []
  · refine if_cf (by rw [hre]; decide) (b_nil (b_cons ?_))
    kpc_turns
    refine e_makeK C cC (by omega) (passR C tk) (hkv := pk_cons (zE_ok _) pk_nil) ?_
    kpc_turns
    exact ⟨rfl, rfl, fun a dx na ndx dxa => hq r us ms hr hre rl ml rxs mxs H3 e13 hrl hru hml hmv a dx na ndx dxa⟩
  · refine if_ct (by rw [ez, decide_eq_false fun e => hre (SX.S_inj e)]; rfl) (b_cons ?_)
    refine s_raise C x_ParseError tk (by decide) ?_
    kpc_turns
    refine c_lenL (SqL.of (e3 _ _ hp2)) ?_
    rw [List.length_map]
    kpc_turns
    intro d nd
    exact he2 _ hr hre d _ (e13.trans (Evl.Ex.new nd)) upd_same
end

/-! a law's lines of a chooser, walked -/
abbrev s_law_line : Stmt := topS 82
abbrev N_law_line : List Str := ["_law_rule_here", "_law_words", "_law_need"]
abbrev P_law_line : List Str := ["_law_rule_here"]
theorem sc_law_line : FnScope N_law_line P_law_line (defScope s_law_line) := ⟨rfl, rfl, rfl, by decide +kernel, rfl, by decide +kernel, by decide +kernel⟩
abbrev s_law_lines : Stmt := topS 83
abbrev N_law_lines : List Str := ["_law_spec_here", "_law_found", "_law_rule_here", "_law_one", "_law_two", "_law_price"]
abbrev P_law_lines : List Str := ["_law_spec_here"]
theorem sc_law_lines : FnScope N_law_lines P_law_lines (defScope s_law_lines) := ⟨rfl, rfl, rfl, by decide +kernel, rfl, by decide +kernel, by decide +kernel⟩

def spLLines : Sp := fun vs H Q _ => ∃ (S rl ml : Addr) (r : Nat) (rxs mxs : List V) (us : List Rul) (ms : List Mv), vs = [.ref S] ∧ H S = some (.tup [.int r, .ref rl, .ref ml]) ∧ r < 1000 ∧ H rl = some (.lst rxs) ∧ Paired (Rt H) rxs us ∧ H ml = some (.lst mxs) ∧ Paired (Mt H) mxs ms ∧ us.length ≤ 1000 ∧ ms.length ≤ 1000 ∧ (∀ u ∈ us, RulW u) ∧ (∀ m ∈ ms, MvW m) ∧
  ∀ p H', H p = none → Ex H H' → H' p = some (.lst (lnsV (chLines r us ms))) → Q (.ref p) H'
section
variable {P : Program} {w : World} {K : PySem.W.Frag} {mg : Str → Option Value} {base : Heap}
theorem ok_law_line {f : Addr} {fd : FuncData} (F : FnP K "_law_line" s_law_line f fd) (mS : mg "str" = none) : FnOk P w K mg base CX0 1 f fd P_law_line spRuleLine := by
  refine fn_ok F sc_law_line (fun vs H Q E ⟨_, _, h, _⟩ => by rw [h]; rfl) fun X vs H Q E C hfn ⟨v, u, hv, ⟨T, N, ev, hT, hN⟩, ⟨hc, hl, hns, hr, hp⟩, hn, hq⟩ => ?_
  subst ev
  subst hv
  have n_rule_here : Nm X "_law_rule_here" 0 := C.nm rfl (by decide +kernel)
  have n_words : Nm X "_law_words" 1 := C.nm rfl (by decide +kernel)
  have w_words : Ns X "_law_words" 1 := C.ns rfl (by decide +kernel) (.inl (hfn _))
  have toW : ∀ n : Nat, V.str (Str.ofString (toString ((n : Nat) : Int))) = wV (TL.numL n) := fun n => by rw [SX.num_S]; rfl
  refine b_cons ?_
  kpc_turns
  refine n_lst ?_
  kpc_turns
  refine ⟨by show 1 ≤ sizeLine; decide, fun p1 H1 np1 e1 hp1 => ?_⟩
  have hN1 : SqT X.K H1 N (u.needs.map nV) := SqT.of (e1 _ _ hN)
  refine e_lc (own := [("_law_need", 2)]) C (by decide +kernel) (i_tup ?_)
  kpc_turns
  refine ⟨N, rfl, ⟨_, hN1⟩, _, _, _, _, walk_tup N _, Z.comp_map (j := 2) C (fun t => wV (TL.numL (u.needs.getD t 0))) (by rw [List.length_map]; omega) (fun H' e => ex_t e hN1) rfl (by decide +kernel) (fun _ => rfl) ?_, ?_⟩
  · rintro t v H2 ht e2 hv X1 C1
    have n_need : Nm X1 "_law_need" 2 := C1.nm rfl (by decide +kernel)
    have w_need : Ns X1 "_law_need" 2 := C1.ns rfl (by decide +kernel) (.inr (by decide +kernel))
    rw [List.getElem?_map] at hv
    obtain ⟨n, hl, rfl⟩ := Option.map_eq_some_iff.mp hv
    refine e_str1 C1 mS ?_
    kpc_turns
    refine ⟨_, rfl, small_log (by have := hns n (List.mem_of_getElem? hl); omega), Evl.Ex.refl _, ?_⟩
    rw [List.getD_eq_getElem?_getD, hl]
    exact toW n
  intro D ys H2 nD e2 hD hy
  have hy2 : ys = (u.needs.map TL.numL).map wV := by
    rw [hy, List.length_map]
    refine List.ext_getElem (by simp) fun i h1 h2 => ?_
    rw [List.getElem_map, List.getElem_map, List.getElem_map, List.getElem_range, List.getD_eq_getElem?_getD, List.getElem?_eq_getElem (by simpa using h2)]
    rfl
  subst hy2
  have big : 100000 < sizeLine := by decide
  refine o_addL (e2 _ _ hp1) hD (by simp; omega) fun p3 H3 np3 e3 hp3 => ?_
  have hT3 := e3 _ _ (e2 _ _ (e1 _ _ hT))
  refine b_cons ?_
  kpc_turns
  refine n_lst ?_
  kpc_turns
  refine e_str1 C mS ?_
  kpc_turns
  refine ⟨_, rfl, small_log (by omega), ?_⟩
  kpc_turns
  refine e_str1 C mS ?_
  kpc_turns
  refine ⟨_, rfl, small_log (by omega), ?_⟩
  kpc_turns
  refine ⟨by show 3 ≤ sizeLine; decide, fun p4 H4 np4 e4 hp4 => ?_⟩
  rw [toW, toW] at hp4
  refine o_addL (e4 _ _ hp3) hp4 (by simp; omega) fun p5 H5 np5 e5 hp5 => ?_
  have hws : [V.str ⟨#[u.c]⟩] ++ (u.needs.map TL.numL).map wV ++ [.str "->", wV (TL.numL u.room), wV (TL.numL u.price)] = ((ruleWs u).map SX.S).map V.str := by
    rw [map_W]
    unfold ruleWs lnsV
    rw [List.map_cons, List.map_append]
    rfl
  rw [hws] at hp5
  kpc_turns
  have hB := sum_W (ruleWs_len ⟨hc, hl, hns, hr, hp⟩)
  have hle : (ruleWs u).length ≤ 1005 := by unfold ruleWs; simp; omega
  refine ⟨p5, (ruleWs u).map SX.S, rfl, SqL.of hp5, ?_, ?_⟩
  · rw [List.length_map]
    show _ + (ruleWs u).length * 1 ≤ _
    omega
  have e0 : (" " : Str) = SX.S [32] := rfl
  rw [e0, join_W]
  exact hq H5 (e1.trans (e2.trans (e3.trans (e4.trans e5))))
theorem ok_law_lines {f : Addr} {fd : FuncData} (F : FnP K "_law_lines" s_law_lines f fd) (mS : mg "str" = none) (cR : Cal P w K mg base CX0 "_law_line" 1 1 spRuleLine) : FnOk P w K mg base CX0 2 f fd P_law_lines spLLines := by
  refine fn_ok F sc_law_lines (fun vs H Q E ⟨_, _, _, _, _, _, _, _, h, _⟩ => by rw [h]; rfl) fun X vs H Q E C hfn ⟨S, rl, ml, r, rxs, mxs, us, ms, hv, hS, hr, hrl, hru, hml, hmv, hun, hmn, hus, hms, hq⟩ => ?_
  subst hv
  have n_spec_here : Nm X "_law_spec_here" 0 := C.nm rfl (by decide +kernel)
  have n_found : Nm X "_law_found" 1 := C.nm rfl (by decide +kernel)
  have w_found : Ns X "_law_found" 1 := C.ns rfl (by decide +kernel) (.inl (hfn _))
  have toW : ∀ n : Nat, V.str (Str.ofString (toString ((n : Nat) : Int))) = wV (TL.numL n) := fun n => by rw [SX.num_S]; rfl
  have big : 100000 < sizeLine := by decide
  have rr : "rooms " = SX.S [114, 111, 111, 109, 115, 32] := rfl
  refine b_cons ?_
  kpc_turns
  refine n_lst ?_
  kpc_turns
  refine e_str1 C mS ?_
  kpc_turns
  refine ⟨small_log (by omega), ?_⟩
  rw [SX.num_S, rr]
  have hr3 := numL3 hr
  refine o_addS (by rw [len_S, len_S]; show 6 + _ ≤ _; omega) ?_
  rw [SX.S_cat]
  refine a_nil ⟨by show 1 ≤ sizeLine; decide, fun p1 H1 np1 e1 hp1 => ?_⟩
  have hrl1 : SqL X.K H1 rl rxs := SqL.of (e1 _ _ hrl)
  have lxs := paired_len hru
  have lms := paired_len hmv
  refine e_lc (own := [("_law_rule_here", 2)]) C (by decide +kernel) (i_list ?_)
  kpc_turns
  refine ⟨rl, rfl, ⟨_, hrl1⟩, _, _, _, _, walk_list rl _, Z.comp_map (j := 2) C (fun t => wV ((us.map ruleLine).getD t [])) (by omega) (fun H' e => ex_l e hrl1) rfl (by decide +kernel) (fun _ => rfl) ?_, ?_⟩
  · rintro t v H2 ht e2 hv X1 C1
    have n_rule_here : Nm X1 "_law_rule_here" 2 := C1.nm rfl (by decide +kernel)
    have w_rule_here : Ns X1 "_law_rule_here" 2 := C1.ns rfl (by decide +kernel) (.inr (by decide +kernel))
    obtain ⟨u, hu, hR⟩ := paired_get hru t v hv
    have hum := List.mem_of_getElem? hu
    kpc_turns
    refine ⟨v, u, rfl, hR.ex (e1.trans e2), hus u hum, ?_, fun H3 e3 => ⟨e3, ?_⟩⟩
    · have := (hus u hum).2.1
      rw [this]
      unfold ar
      split <;> (try split) <;> omega
    rw [List.getD_eq_getElem?_getD, List.getElem?_map, hu]
    rfl
  intro D ys H2 nD e2 hD hy
  have hy2 : ys = lnsV (us.map ruleLine) := by
    rw [hy, lxs]
    unfold lnsV
    refine List.ext_getElem (by simp) fun i h1 h2 => ?_
    rw [List.getElem_map, List.getElem_map, List.getElem_range, List.getD_eq_getElem?_getD, List.getElem?_eq_getElem (by simpa using h2)]
    rfl
  subst hy2
  refine o_addL (e2 _ _ hp1) hD (by unfold lnsV; simp; omega) fun p3 H3 np3 e3 hp3 => ?_
  have e13 := e1.trans (e2.trans e3)
  have hS3 := e13 _ _ hS
  refine b_cons ?_
  kpc_turns
  have hml3 : SqL X.K H3 ml mxs := SqL.of (e13 _ _ hml)
  refine e_lc (own := [("_law_one", 3), ("_law_two", 4), ("_law_price", 5)]) C (by decide +kernel) (i_list ?_)
  kpc_turns
  refine ⟨ml, rfl, ⟨_, hml3⟩, _, _, _, _, walk_list ml _, comp_mapG C (fun t _ => [some (.ref S), some (.ref p3), none, some (.int (ms.getD t (0, 0, 0)).1), some (.int (ms.getD t (0, 0, 0)).2.1), some (.int (ms.getD t (0, 0, 0)).2.2)]) (fun t => wV (moveLine (ms.getD t (0, 0, 0)))) (by omega) (fun H' e => ex_l e hml3) ?_ ?_, ?_⟩
  · rintro t v H4 ht e4 hv X1 C1
    obtain ⟨m, hm, T, rfl, hT⟩ := paired_get hmv t v hv
    have n_one : Nm X1 "_law_one" 3 := C1.nm rfl (by decide +kernel)
    have n_two : Nm X1 "_law_two" 4 := C1.nm rfl (by decide +kernel)
    have n_price : Nm X1 "_law_price" 5 := C1.nm rfl (by decide +kernel)
    have w_one : Ns X1 "_law_one" 3 := C1.ns rfl (by decide +kernel) (.inr (by decide +kernel))
    have w_two : Ns X1 "_law_two" 4 := C1.ns rfl (by decide +kernel) (.inr (by decide +kernel))
    have w_price : Ns X1 "_law_price" 5 := C1.ns rfl (by decide +kernel) (.inr (by decide +kernel))
    refine g_tup C1 (SqT.of (e4 _ _ (e13 _ _ hT))) ?_
    kpc_turns
    rw [List.getD_eq_getElem?_getD, hm]
    exact ⟨rfl, rfl, rfl⟩
  · rintro t v H4 ht e4 hv X1 C1
    obtain ⟨m, hm, T, rfl, hT⟩ := paired_get hmv t v hv
    have h0 := hms m (List.mem_of_getElem? hm)
    have a1 := numL3 h0.1
    have a2 := numL3 h0.2.1
    have a3 := numL3 h0.2.2
    have n_one : Nm X1 "_law_one" 3 := C1.nm rfl (by decide +kernel)
    have n_two : Nm X1 "_law_two" 4 := C1.nm rfl (by decide +kernel)
    have n_price : Nm X1 "_law_price" 5 := C1.nm rfl (by decide +kernel)
    have w_one : Ns X1 "_law_one" 3 := C1.ns rfl (by decide +kernel) (.inr (by decide +kernel))
    have w_two : Ns X1 "_law_two" 4 := C1.ns rfl (by decide +kernel) (.inr (by decide +kernel))
    have w_price : Ns X1 "_law_price" 5 := C1.ns rfl (by decide +kernel) (.inr (by decide +kernel))
    rw [List.getD_eq_getElem?_getD, hm, Option.getD_some]
    have em : "move " = SX.S [109, 111, 118, 101, 32] := rfl
    have es : " " = SX.S [32] := rfl
    kpc_turns
    refine e_str1 C1 mS ?_
    kpc_turns
    refine ⟨small_log (by have := h0.1; omega), ?_⟩
    rw [SX.num_S, em]
    refine o_addS (by rw [len_S, len_S]; show 5 + _ ≤ _; omega) ?_
    rw [SX.S_cat]
    kpc_turns
    rw [es]
    refine o_addS (by rw [len_S, len_S, List.length_append]; show 5 + _ + 1 ≤ _; omega) ?_
    rw [SX.S_cat]
    kpc_turns
    refine e_str1 C1 mS ?_
    kpc_turns
    refine ⟨small_log (by have := h0.2.1; omega), ?_⟩
    rw [SX.num_S]
    refine o_addS (by rw [len_S, len_S, List.length_append, List.length_append]; show 5 + _ + 1 + _ ≤ _; omega) ?_
    rw [SX.S_cat]
    kpc_turns
    refine o_addS (by rw [len_S, len_S, List.length_append, List.length_append, List.length_append]; show 5 + _ + 1 + _ + 1 ≤ _; omega) ?_
    rw [SX.S_cat]
    kpc_turns
    refine e_str1 C1 mS ?_
    kpc_turns
    refine ⟨small_log (by have := h0.2.2; omega), ?_⟩
    rw [SX.num_S]
    refine o_addS (by rw [len_S, len_S, List.length_append, List.length_append, List.length_append, List.length_append]; show 5 + _ + 1 + _ + 1 + _ ≤ _; omega) ?_
    rw [SX.S_cat]
    refine ⟨Evl.Ex.refl _, ?_⟩
    show wV _ = wV (moveLine m)
    congr 1
    unfold moveLine moveWs moveL
    simp [TL.joinL]
  intro D4 ys4 H4 nD4 e4 hD4 hy4
  have hy4 : ys4 = lnsV (ms.map moveLine) := by
    rw [hy4, lms]
    unfold lnsV
    refine List.ext_getElem (by simp) fun i h1 h2 => ?_
    rw [List.getElem_map, List.getElem_map, List.getElem_map, List.getElem_range, List.getD_eq_getElem?_getD, List.getElem?_eq_getElem (by simpa using h2)]
    rfl
  subst hy4
  refine o_addL (e4 _ _ hp3) hD4 (by unfold lnsV; simp; omega) fun p5 H5 np5 e5 hp5 => ?_
  refine hq p5 H5 ?_ (e13.trans (e4.trans e5)) ?_
  · cases h : H p5 with
    | none => rfl
    | some o => rw [(e13.trans e4) _ _ h] at np5; cases np5
  rw [hp5]
  have er : (.str (SX.S ([114, 111, 111, 109, 115, 32] ++ TL.numL r)) : V) = wV (roomsLine r) := rfl
  rw [er]
  unfold lnsV chLines
  rw [List.map_cons, List.map_append]
  rfl
end

/-! a chooser's lines are of signs below 128 -/
theorem numL_as {n : Nat} : ∀ c ∈ TL.numL n, c < 128 := fun c hc => by
  have := TL.numL_digits n c hc
  omega
theorem ruleLine_as {u : Rul} (h : RulW u) : ∀ c ∈ ruleLine u, c < 128 := fun c hc => by
  rcases joinL_mem hc with h1 | ⟨p, hp, h1⟩
  · rw [List.mem_singleton] at h1; omega
  · unfold ruleWs at hp
    simp only [List.mem_cons, List.mem_append, List.mem_map, List.not_mem_nil, or_false] at hp
    rcases hp with rfl | ⟨n, _, rfl⟩ | rfl | rfl | rfl
    · rw [List.mem_singleton] at h1
      subst h1
      have := h.1
      have hl : ∀ c ∈ tl zLetters, c < 128 := by decide +kernel
      exact hl _ this
    · exact numL_as c h1
    · have hl : ∀ c ∈ arrowL, c < 128 := by decide
      exact hl c h1
    · exact numL_as c h1
    · exact numL_as c h1
theorem moveLine_as (m : Mv) : ∀ c ∈ moveLine m, c < 128 := fun c hc => by
  rcases joinL_mem hc with h1 | ⟨p, hp, h1⟩
  · rw [List.mem_singleton] at h1; omega
  · unfold moveWs at hp
    simp only [List.mem_cons, List.not_mem_nil, or_false] at hp
    rcases hp with rfl | rfl | rfl | rfl
    · have hl : ∀ c ∈ moveL, c < 128 := by decide
      exact hl c h1
    · exact numL_as c h1
    · exact numL_as c h1
    · exact numL_as c h1
theorem roomsLine_as (r : Nat) : ∀ c ∈ roomsLine r, c < 128 := fun c hc => by
  unfold roomsLine at hc
  rw [List.mem_append] at hc
  rcases hc with h1 | h1
  · have hl : ∀ c ∈ roomsL ++ [32], c < 128 := by decide
    exact hl c h1
  · exact numL_as c h1
theorem chLines_as {r : Nat} {us : List Rul} {ms : List Mv} (hr : r < 1000) (hu : ∀ u ∈ us, RulW u) (hm : ∀ m ∈ ms, MvW m) : ∀ l ∈ chLines r us ms, As l ∧ l.length ≤ 40 ∧ (10 : Nat) ∉ l := by
  intro l hl
  have hlen := chLines_len hr hu hm l hl
  have key : (∀ c ∈ l, c < 128) ∧ (10 : Nat) ∉ l := by
    unfold chLines at hl
    rw [List.mem_cons, List.mem_append, List.mem_map, List.mem_map] at hl
    rcases hl with rfl | ⟨u, h, rfl⟩ | ⟨m, h, rfl⟩
    · exact ⟨roomsLine_as r, roomsLine_nl r⟩
    · exact ⟨ruleLine_as (hu u h), ruleLine_nl (hu u h).1⟩
    · exact ⟨moveLine_as m, moveLine_nl m⟩
  exact ⟨⟨key.1, by omega⟩, hlen, key.2⟩

/-! lines that are of no form -/
abbrev s_law_odd_line : Stmt := topS 84
abbrev N_law_odd_line : List Str := ["_law_feed_here", "_law_some"]
abbrev P_law_odd_line : List Str := ["_law_feed_here"]
theorem sc_law_odd_line : FnScope N_law_odd_line P_law_odd_line (defScope s_law_odd_line) := ⟨rfl, rfl, rfl, by decide +kernel, rfl, by decide +kernel, by decide +kernel⟩

def oddS : List Str := (["", "rooms", "rooms ", "rooms 02", "rooms 1000", "rooms -1", " rooms 2", "a -> 0", "a -> 0 1 1", "a  -> 0 1"] : List Str) ++ (["a -> 0 1 ", "a 0 -> 0 1", "i -> 0 1", "q 0 -> 0 1", "A -> 0 1", "ab -> 0 1", "a - > 0 1", "a -> 0 01"] : List Str) ++
  (["a -> 0 1000", "a -> x 1", "i 00 -> 0 1", "move", "move 0 1", "move 0 1 2 3", "move 0 1 02", "Move 0 1 2"] : List Str) ++ (["move 0 1 -2", "move  0 1 2", "a=> 0 1", "a -> 0 +1", "-> 0 1", "q 0 0 0 -> 0 1"] : List Str)
def oddB (l : Ln) : Bool := l.all (· < 128) && !l.contains 10 && decide (l.length ≤ 40) && (readRooms l).isNone && (readRule l).isNone && (readMove l).isNone
theorem odd_all : (oddS.all fun z => oddB (tl z)) = true := by decide +kernel
structure OddL (l : Ln) : Prop where
  as : As l
  nl : (10 : Nat) ∉ l
  len : l.length ≤ 40
  ro : readRooms l = none
  ru : readRule l = none
  mo : readMove l = none
theorem odd_at {z : Str} (h : z ∈ oddS) : ∃ l, V.str z = wV l ∧ OddL l := by
  have := List.all_eq_true.mp odd_all z h
  unfold oddB at this
  simp only [Bool.and_eq_true, List.all_eq_true, decide_eq_true_eq, Bool.not_eq_true', Option.isNone_iff_eq_none] at this
  obtain ⟨⟨⟨⟨⟨h1, h2⟩, h3⟩, h4⟩, h5⟩, h6⟩ := this
  refine ⟨tl z, congrArg V.str (SX.S_tl z).symm, ⟨h1, by omega⟩, ?_, h3, h4, h5, h6⟩
  intro hm
  have : (tl z).contains 10 = true := List.contains_iff_mem.mpr hm
  rw [h2] at this
  cases this
def spOddLine : Sp := fun vs H Q _ => ∃ a : Addr, vs = [.ref a] ∧ Feed H a ∧ ∀ l, OddL l → ∀ H', Ex H H' → Q (wV l) H'
section
variable {P : Program} {w : World} {K : PySem.W.Frag} {mg : Str → Option Value} {base : Heap}
theorem ok_odd_line {f : Addr} {fd : FuncData} (F : FnP K "_law_odd_line" s_law_odd_line f fd) (cA : Cal P w K mg base CX0 "_law_any" 2 2 (spAny K)) : FnOk P w K mg base CX0 3 f fd P_law_odd_line spOddLine := by
  refine fn_ok F sc_law_odd_line (fun vs H Q E ⟨_, h, _⟩ => by rw [h]; rfl) fun X vs H Q E C hfn ⟨a, hv, hF, hq⟩ => ?_
  subst hv
  have n_feed_here : Nm X "_law_feed_here" 0 := C.nm rfl (by decide +kernel)
  have n_some : Nm X "_law_some" 1 := C.nm rfl (by decide +kernel)
  have w_some : Ns X "_law_some" 1 := C.ns rfl (by decide +kernel) (.inl (hfn _))
  refine b_cons ?_
  kpc_turns
  refine n_lst ?_
  kpc_turns
  refine ⟨by show 10 ≤ sizeLine; decide, fun p1 H1 n1 e1 h1 => ?_⟩
  refine b_cons ?_
  kpc_turns
  refine n_lst ?_
  kpc_turns
  refine ⟨by show 8 ≤ sizeLine; decide, fun p2 H2 n2 e2 h2 => ?_⟩
  refine o_addL (e2 _ _ h1) h2 (by show 10 + 8 ≤ sizeLine; decide) fun p3 H3 n3 e3 h3 => ?_
  refine b_cons ?_
  kpc_turns
  refine n_lst ?_
  kpc_turns
  refine ⟨by show 8 ≤ sizeLine; decide, fun p4 H4 n4 e4 h4 => ?_⟩
  refine o_addL (e4 _ _ h3) h4 (by show 18 + 8 ≤ sizeLine; decide) fun p5 H5 n5 e5 h5 => ?_
  refine b_cons ?_
  kpc_turns
  refine n_lst ?_
  kpc_turns
  refine ⟨by show 6 ≤ sizeLine; decide, fun p6 H6 n6 e6 h6 => ?_⟩
  refine o_addL (e6 _ _ h5) h6 (by show 26 + 6 ≤ sizeLine; decide) fun p7 H7 n7 e7 h7 => ?_
  kpc_turns
  have e17 := e1.trans (e2.trans (e3.trans (e4.trans (e5.trans (e6.trans e7)))))
  have hx : SqL K H7 p7 (oddS.map V.str) := SqL.of h7
  refine ⟨a, .ref p7, rfl, hF.mono e17, .inr ⟨p7, _, rfl, hx, by decide, by decide, fun x hx => ?_⟩⟩
  obtain ⟨z, hz, rfl⟩ := List.mem_map.mp hx
  obtain ⟨l, e, ho⟩ := odd_at hz
  rw [e]
  exact hq l ho H7 e17
end

/-! l.insert(i, y) -/
section
variable {P : Program} {w : World} {K : PySem.W.Frag} {mg : Str → Option Value} {base : Heap}
/-- l.insert(i, y) -/
theorem e_insert {X : Cx} {σ : St} {H : Hp} {Q : VK} {o e1 e2 : Expr} {apos cpos : Pos} (h : zE X o σ H fun v H1 => ∃ l u, v = .ref l ∧ H1 l = some (.lst u) ∧ zE X e1 σ H1 fun i H2 => zE X e2 σ H2 fun y H3 => ∃ (xs : List V) (n : Nat), i = .int n ∧ H3 l = some (.lst xs) ∧ xs.length < sizeLine ∧ n < 2 ^ 60 ∧ ∀ H4, Xb l H3 H4 → H4 l = some (.lst (xs.take n ++ [y] ++ xs.drop n)) → Q .non H4)
    (hp : PE X (.Call (.Attribute o "insert" apos) [e1, e2] [] cpos) (tBM X.K "list" (fun x vs H Q => ∃ (l : Addr) (xs : List V) (i : Int) (y : V), x = .ref l ∧ vs = [.int i, y] ∧ H l = some (.lst xs) ∧ xs.length < sizeLine ∧ 0 ≤ i ∧ i < 2 ^ 63 ∧ Q .non (upd H l (.lst (xs.take i.toNat ++ [y] ++ xs.drop i.toNat)))) (zE X o) (zA X [e1, e2])) := by exact pe_bm PySem.F.plainAttrs_list PySem.F.slot_list_insert PySem.F.type_list_insert mt_insert (zE_ok _) (zA_ok _))
    (he : starEach [e1, e2] X.env = (false, eval e1 X.env) :: starEach [e2] X.env := by rfl) (he2 : starEach [e2] X.env = (false, eval e2 X.env) :: starEach [] X.env := by rfl) : zE X (.Call (.Attribute o "insert" apos) [e1, e2] [] cpos) σ H Q :=
  zE_of hp (zE_mono h fun v H1 ⟨l, u, e1, h0, h1⟩ => by
    subst e1
    exact ⟨Or.inl ⟨rfl, u, SqL.of h0⟩, a_cons (zE_mono h1 fun i H2 h2 => a_cons (zE_mono h2 fun y H3 ⟨xs, n, g0, g1, g2, g3, g4⟩ => a_nil ⟨l, xs, n, y, rfl, by rw [g0], g1, g2, by omega, by omega, g4 _ .upd upd_same⟩) he2) he⟩)
end

/-! lines put in, exchanged, moved or taken out: what is read then, plain -/
theorem rd_body {us : List Rul} {ms : List Mv} (hu : ∀ u ∈ us, RulW u) (hm : ∀ m ∈ ms, MvW m) (k n : Nat) (ls : List Ln) : ∃ us' ms', rdLines ((us.map ruleLine ++ ms.map moveLine).take k ++ ls) [] [] n = rdLines ls us' ms' (n + min k (us.length + ms.length)) ∧ (us.length < k → ms ≠ [] → ms' ≠ []) := by
  rw [List.take_append, List.length_map, ← List.map_take, ← List.map_take, List.append_assoc, rdLines_rules fun u h => hu u (List.mem_of_mem_take h), List.nil_append, rdLines_moves fun m h => hm m (List.mem_of_mem_take h), List.nil_append]
  refine ⟨us.take k, ms.take (k - us.length), ?_, fun h1 h2 e => ?_⟩
  · congr 1
    rw [List.length_take, List.length_take]
    omega
  · rcases List.take_eq_nil_iff.mp e with e | e
    · omega
    · exact h2 e
theorem rd_odd {r : Nat} {us : List Rul} {ms : List Mv} (hr : r < 1000) (hu : ∀ u ∈ us, RulW u) (hm : ∀ m ∈ ms, MvW m) {n : Nat} (hn : n ≤ us.length + ms.length) {l : Ln} (ho : OddL l) (rest : List Ln) : rdAll ((chLines r us ms).take n ++ l :: rest) = .inl n := by
  cases n with
  | zero =>
    rw [List.take_zero, List.nil_append]
    show (match readRooms l with | none => (Sum.inl 0 : Nat ⊕ (Nat × List Rul × List Mv)) | some r => _) = _
    rw [ho.ro]
  | succ k =>
    obtain ⟨us', ms', e, _⟩ := rd_body hu hm k 1 (l :: rest)
    have e0 : (chLines r us ms).take (k + 1) ++ l :: rest = roomsLine r :: ((us.map ruleLine ++ ms.map moveLine).take k ++ l :: rest) := rfl
    rw [e0]
    show (match readRooms (roomsLine r) with | none => (Sum.inl 0 : Nat ⊕ (Nat × List Rul × List Mv)) | some r => match rdLines ((us.map ruleLine ++ ms.map moveLine).take k ++ l :: rest) [] [] 1 with | .inl k => .inl k | .inr (us, ms) => .inr (r, us, ms)) = _
    rw [read_rooms hr]
    dsimp only
    rw [e, rdLines_none (by rw [ho.ru, ite_self]) ho.mo]
    show Sum.inl (1 + min k (us.length + ms.length)) = _
    rw [show 1 + min k (us.length + ms.length) = k + 1 by omega]
theorem mv_rooms (r : Nat) : readMove (roomsLine r) = none := by
  have e : roomsLine r = TL.joinL [32] [roomsL, TL.numL r] := by unfold roomsLine; simp [TL.joinL]
  have w : wordsL (roomsLine r) = [roomsL, TL.numL r] := by
    rw [e]
    refine wordsL_join (by simp) fun p hp => ?_
    simp only [List.mem_cons, List.not_mem_nil, or_false] at hp
    rcases hp with rfl | rfl
    · decide
    · exact free32 r
  unfold readMove
  rw [w]
  rfl
theorem rd_more {r : Nat} {us : List Rul} {ms : List Mv} (hr : r < 1000) (hu : ∀ u ∈ us, RulW u) (hm : ∀ m ∈ ms, MvW m) (hne : ms ≠ []) {l : Ln} (ho : readMove l = none) : rdAll (chLines r us ms ++ [l]) = .inl (chLines r us ms).length := by
  obtain ⟨us', ms', e, h2⟩ := rd_body hu hm (us.length + ms.length) 1 [l]
  have hlen : (us.map ruleLine ++ ms.map moveLine).length = us.length + ms.length := by rw [List.length_append, List.length_map, List.length_map]
  rw [List.take_of_length_le (by omega)] at e
  have hm' : ms' ≠ [] := h2 (by have := List.length_pos_iff.mpr hne; omega) hne
  have e0 : chLines r us ms ++ [l] = roomsLine r :: ((us.map ruleLine ++ ms.map moveLine) ++ [l]) := rfl
  rw [e0]
  show (match readRooms (roomsLine r) with | none => (Sum.inl 0 : Nat ⊕ (Nat × List Rul × List Mv)) | some r => match rdLines ((us.map ruleLine ++ ms.map moveLine) ++ [l]) [] [] 1 with | .inl k => .inl k | .inr (us, ms) => .inr (r, us, ms)) = _
  rw [read_rooms hr]
  dsimp only
  rw [e, rdLines_none (if_neg hm') ho]
  unfold chLines
  rw [List.length_cons, hlen]
  show Sum.inl (1 + min (us.length + ms.length) (us.length + ms.length)) = _
  rw [show 1 + min (us.length + ms.length) (us.length + ms.length) = us.length + ms.length + 1 by omega]
theorem rd_short {r : Nat} {u : Rul} {us : List Rul} {ms : List Mv} (hc : u.c ∈ tl zLetters) : rdAll ((chLines r (u :: us) ms).drop 1) = .inl 0 := by
  have e0 : (chLines r (u :: us) ms).drop 1 = ruleLine u :: (us.map ruleLine ++ ms.map moveLine) := rfl
  rw [e0]
  show (match readRooms (ruleLine u) with | none => (Sum.inl 0 : Nat ⊕ (Nat × List Rul × List Mv)) | some r => _) = _
  have e1 : ∃ rest, ruleLine u = [u.c] ++ ([32] ++ rest) := by
    unfold ruleLine ruleWs
    cases h : u.needs.map TL.numL ++ [arrowL, TL.numL u.room, TL.numL u.price] with
    | nil => exact absurd h (by simp)
    | cons a as => exact ⟨TL.joinL [32] (a :: as), by simp [TL.joinL]⟩
  obtain ⟨rest, e1⟩ := e1
  have e2 : TL.par [32] [] (ruleLine u) = some ([] ++ [u.c], rest) := by
    rw [e1]
    exact TL.par_part1 (s := 32) (S := []) fun h => (letter_ne hc).1 (List.mem_singleton.mp h).symm
  have e3 : readRooms (ruleLine u) = none := by
    unfold readRooms
    rw [e2]
    exact if_neg fun e => by simp [roomsL] at e
  rw [e3]
/-- rules that no chooser of at most four rooms may have -/
def badRuls : List Rul := [⟨97, [], 9, 1⟩, ⟨97, [], 0, 0⟩, ⟨97, [], 0, 100⟩, ⟨105, [7], 0, 1⟩]
theorem bad_w : ∀ u ∈ badRuls, RulW u := by
  intro u hu
  unfold badRuls at hu
  simp only [List.mem_cons, List.not_mem_nil, or_false] at hu
  rcases hu with rfl | rfl | rfl | rfl
  · exact ⟨by decide +kernel, by decide +kernel, by decide, by decide, by decide⟩
  · exact ⟨by decide +kernel, by decide +kernel, by decide, by decide, by decide⟩
  · exact ⟨by decide +kernel, by decide +kernel, by decide, by decide, by decide⟩
  · exact ⟨by decide +kernel, by decide +kernel, by decide, by decide, by decide⟩
theorem Rt.ruleT {H : Hp} {v : V} {u : Rul} (h : Rt H v u) (hl : u.needs.length ≤ 100000) : ∃ N, RuleT H v (rulL N u) ∧ H N = some (.tup (u.needs.map nV)) := by
  obtain ⟨T, N, rfl, h2, h3⟩ := h
  refine ⟨N, ⟨T, rfl, h2, ⟨by show 4 ≤ 100000; decide, fun x hx => ?_, fun z hz => ?_⟩, fun b ns hb hn => ?_⟩, h3⟩
  · simp only [rulL, List.mem_cons, List.not_mem_nil, or_false] at hx
    rcases hx with rfl | rfl | rfl | rfl
    · exact .flat rfl
    · exact .tup h3
    · exact .flat rfl
    · exact .flat rfl
  · simp only [rulL, nV, List.mem_cons, List.not_mem_nil, or_false] at hz
    rcases hz with e | e | e | e
    · cases e; show 1 ≤ 100000; decide
    · cases e
    · cases e
    · cases e
  · simp only [rulL, nV, List.mem_cons, List.not_mem_nil, or_false] at hb
    rcases hb with e | e | e | e
    · cases e
    · cases e
      rw [h3] at hn
      cases hn
      exact knT_ints hl
    · cases e
    · cases e
theorem bad_v {H : Hp} {v : V} {u : Rul} {r : Nat} (h : Rt H v u) (hu : u ∈ badRuls) (r4 : r ≤ 4) : ∃ ys, RuleT H v ys ∧ ruleV H r ys = false := by
  have hl : u.needs.length ≤ 1 := by
    unfold badRuls at hu
    simp only [List.mem_cons, List.not_mem_nil, or_false] at hu
    rcases hu with rfl | rfl | rfl | rfl <;> decide
  obtain ⟨N, h1, h2⟩ := h.ruleT (by omega)
  refine ⟨_, h1, ?_⟩
  show (letterV (.str ⟨#[u.c]⟩) && ((match H N with
      | some (.tup ns) => decide (ns.length = arV (.str ⟨#[u.c]⟩)) && ns.all (roomV r)
      | _ => false) && (roomV r (nV u.room) && priceV 1 (nV u.price)))) = false
  rw [h2]
  unfold badRuls at hu
  simp only [List.mem_cons, List.not_mem_nil, or_false] at hu
  rcases hu with rfl | rfl | rfl | rfl
  · have : roomV r (nV 9) = false := by
      show (decide ((0 : Int) ≤ (9 : Nat)) && decide (((9 : Nat) : Int) < r)) = false
      rw [decide_eq_false (show ¬ ((9 : Nat) : Int) < r by omega), Bool.and_false]
    dsimp only
    rw [this]
    simp
  · have : priceV 1 (nV 0) = false := rfl
    dsimp only
    rw [this]
    simp
  · have : priceV 1 (nV 100) = false := rfl
    dsimp only
    rw [this]
    simp
  · have : ([nV 7] : List V).all (roomV r) = false := by
      show (roomV r (nV 7) && true) = false
      have e : roomV r (nV 7) = false := by
        show (decide ((0 : Int) ≤ (7 : Nat)) && decide (((7 : Nat) : Int) < r)) = false
        rw [decide_eq_false (show ¬ ((7 : Nat) : Int) < r by omega), Bool.and_false]
      rw [e]; rfl
    dsimp only [List.map]
    rw [this]
    simp

/-! k14: the law's lines, its pick and place -/
abbrev s_law : Stmt := topS 85
abbrev N_law : List Str := ["_law_script", "_law_feed_here", "_law_turn", "_law_spec_here", "_law_lines_here", "_law_pick", "_law_at", "_law_due", "_law_odd", "_law_text", "_law_line_here", "_law_tail", "_law_texts", "_law_dues"]
abbrev P_law : List Str := ["_law_script"]
theorem sc_law : FnScope N_law P_law (defScope s_law) := ⟨rfl, rfl, rfl, by decide +kernel, rfl, by decide +kernel, by decide +kernel⟩

theorem vd_rules {r : Nat} {us : List Rul} {ms : List Mv} (h : ChV r us ms) : ∀ u ∈ us, RulW u := fun u hu => by
  obtain ⟨h1, h2, h3, h4, h5, h6⟩ := h.ok u hu
  have := h.r4
  exact ⟨h1, h2, fun n hn => by have := h3 n hn; omega, by omega, by omega⟩
theorem vd_moves {r : Nat} {us : List Rul} {ms : List Mv} (h : ChV r us ms) : ∀ m ∈ ms, MvW m := fun m hm => by
  obtain ⟨h1, h2, h3, h4⟩ := h.mo.ok m hm
  have := h.r4
  exact ⟨by omega, by omega, by omega⟩
/-- what is drawn: rooms, rules, moves -/
structure Sp14 (r : Nat) (us : List Rul) (ms : List Mv) : Prop where
  vd : ChV r us ms
  r2 : 2 ≤ r
  len : us.length ≤ 12
  leaf : ¬ noL us
  mR : MvR r ms
theorem Sp14.ne {r : Nat} {us : List Rul} {ms : List Mv} (s : Sp14 r us ms) : us ≠ [] ∧ ms ≠ [] := by
  refine ⟨fun e => s.leaf fun u hu => (by rw [e] at hu; cases hu), fun e => ?_⟩
  obtain ⟨c, hc⟩ := s.mR.ring (by have := s.r2; omega) 0 (by have := s.r2; omega)
  rw [e] at hc
  cases hc
section
variable {P : Program} {w : World} {K : PySem.W.Frag} {mg : Str → Option Value} {base : Heap}
variable {X : Cx} {H : Hp} {nx bk ct : St → Hp → Prop} {rt : VK} {a0 fa CC CL : Addr} {o2 o3 o4 o5 o6 o7 o8 o9 o11 o12 o13 : Option V}
abbrev LB : List Stmt := forBody (stAt (defBody s_law) 1)
theorem law_a (C : Ctx X P w K mg base N_law (defScope s_law) 13) (hfn : ∀ y, X.fn y = true) (mL : mg "len" = none) (cD : Cal P w K mg base CX0 "_law_draw" 1 2 spDraw) (cLe : Cal P w K mg base CX0 "_law_letters" 3 1 spLetters)
    (cSp : Cal P w K mg base CX0 "_law_spec" 3 4 spSpec) (cLi : Cal P w K mg base CX0 "_law_lines" 2 1 spLLines) (hF : Feed H fa)
    (h : ∀ (r : Nat) (us : List Rul) (ms : List Mv) (p3 L D : Addr) (d : Int) (n : Nat) H', Sp14 r us ms → Ex H H' → H L = none → H' L = some (.lst (lnsV (chLines r us ms))) → H' D = some (.tup [.str "", .non]) → 0 ≤ d → d < 6 → n ≤ us.length + ms.length →
      zB X (LB.drop 3) nx rt bk ct [some (.ref a0), some (.ref fa), o2, some (.ref p3), some (.ref L), some (.int d), some (.int (n : Nat)), some (.ref D), o8, o9, none, o11, o12, o13] H') :
    zB X LB nx rt bk ct [some (.ref a0), some (.ref fa), o2, o3, o4, o5, o6, o7, o8, o9, none, o11, o12, o13] H := by
  have n_script : Nm X "_law_script" 0 := C.nm rfl (by decide +kernel)
  have n_feed_here : Nm X "_law_feed_here" 1 := C.nm rfl (by decide +kernel)
  have n_turn : Nm X "_law_turn" 2 := C.nm rfl (by decide +kernel)
  have n_spec_here : Nm X "_law_spec_here" 3 := C.nm rfl (by decide +kernel)
  have n_lines_here : Nm X "_law_lines_here" 4 := C.nm rfl (by decide +kernel)
  have n_pick : Nm X "_law_pick" 5 := C.nm rfl (by decide +kernel)
  have n_at : Nm X "_law_at" 6 := C.nm rfl (by decide +kernel)
  have n_due : Nm X "_law_due" 7 := C.nm rfl (by decide +kernel)
  have n_odd : Nm X "_law_odd" 8 := C.nm rfl (by decide +kernel)
  have n_text : Nm X "_law_text" 9 := C.nm rfl (by decide +kernel)
  have n_tail : Nm X "_law_tail" 11 := C.nm rfl (by decide +kernel)
  have n_texts : Nm X "_law_texts" 12 := C.nm rfl (by decide +kernel)
  have n_dues : Nm X "_law_dues" 13 := C.nm rfl (by decide +kernel)
  have w_feed_here : Ns X "_law_feed_here" 1 := C.ns rfl (by decide +kernel) (.inl (hfn _))
  have w_turn : Ns X "_law_turn" 2 := C.ns rfl (by decide +kernel) (.inl (hfn _))
  have w_spec_here : Ns X "_law_spec_here" 3 := C.ns rfl (by decide +kernel) (.inl (hfn _))
  have w_lines_here : Ns X "_law_lines_here" 4 := C.ns rfl (by decide +kernel) (.inl (hfn _))
  have w_pick : Ns X "_law_pick" 5 := C.ns rfl (by decide +kernel) (.inl (hfn _))
  have w_at : Ns X "_law_at" 6 := C.ns rfl (by decide +kernel) (.inl (hfn _))
  have w_due : Ns X "_law_due" 7 := C.ns rfl (by decide +kernel) (.inl (hfn _))
  have w_odd : Ns X "_law_odd" 8 := C.ns rfl (by decide +kernel) (.inl (hfn _))
  have w_text : Ns X "_law_text" 9 := C.ns rfl (by decide +kernel) (.inl (hfn _))
  have w_tail : Ns X "_law_tail" 11 := C.ns rfl (by decide +kernel) (.inl (hfn _))
  have w_texts : Ns X "_law_texts" 12 := C.ns rfl (by decide +kernel) (.inl (hfn _))
  have w_dues : Ns X "_law_dues" 13 := C.ns rfl (by decide +kernel) (.inl (hfn _))
  refine b_cons ?_
  kpc_turns
  refine ⟨fa, rfl, hF, fun z H1 hz e1 => ?_⟩
  have hF1 := hF.mono e1
  kpc_turns
  refine draw_n hF1 (by decide) (by decide) fun d hd0 hd4 => ?_
  kpc_turns
  obtain ⟨r, hr⟩ : ∃ r : Nat, (2 : Int) + d = r := ⟨(2 + d).toNat, by omega⟩
  have r1 : 1 ≤ r := by omega
  have r4 : r ≤ 4 := by omega
  rw [hr]
  refine ⟨fa, z, r, 99, rfl, hF1, hz, r1, r4, by decide, by decide, fun T rl ml rxs mxs rus mv H2 e2 hT nrl nml hrm hrl hru hml hmv hS => ?_⟩
  have hV : ChV r rus mv := ⟨r1, r4, fun u hu => (hS.ok u hu).1, Nat.le_trans hS.len (by decide), hS.mvR.mvOk r4, hS.mvR.joined r4⟩
  have hleaf : ¬ noL rus := fun no => by
    obtain ⟨c, hc, hc2⟩ := hz.leaf
    obtain ⟨u, hu, e⟩ := (hS.let_ c).mp hc
    refine no u hu ?_
    unfold ar
    rw [e, if_pos hc2]
  have s : Sp14 r rus mv := ⟨hV, by omega, hS.len, hleaf, hS.mvR⟩
  have h12 := hS.len
  have m12 := hV.mo.len
  refine b_cons ?_
  kpc_turns
  refine ⟨T, rl, ml, r, rxs, mxs, rus, mv, rfl, hT, by omega, hrl, hru, hml, hmv, by omega, by omega, vd_rules hV, vd_moves hV, fun L H3 n3 e3 hL => ?_⟩
  kpc_turns
  refine draw_n (hF1.mono (e2.trans e3)) (by decide) (by decide) fun d2 hd20 hd26 => ?_
  kpc_turns
  have hcl : (lnsV (chLines r rus mv)).length = rus.length + mv.length + 1 := by
    unfold lnsV chLines
    simp
  rw [hcl]
  refine draw_n (hF1.mono (e2.trans e3)) (by omega) (by omega) fun d3 hd30 hd3l => ?_
  obtain ⟨n, hn⟩ : ∃ n : Nat, d3 = n := ⟨d3.toNat, by omega⟩
  subst hn
  refine n_tup ?_
  kpc_turns
  refine ⟨by show 2 ≤ sizeLine; decide, fun D H4 n4 e4 hD => ?_⟩
  refine h r rus mv T L D d2 n H4 s (e1.trans (e2.trans (e3.trans e4))) ?_ (e4 _ _ hL) hD hd20 hd26 (by omega)
  cases hx : H L with
  | none => rfl
  | some o => rw [(e1.trans e2) _ _ hx] at n3; cases n3
end

/-! k14: the law's lines changed -/
def LsOk (ls : List Ln) : Prop := (∀ l ∈ ls, As l ∧ l.length ≤ 40 ∧ (10 : Nat) ∉ l) ∧ ls ≠ [] ∧ ls.length ≤ 60
/-- how the reading ends -/
inductive End14 (r : Nat) (us : List Rul) (ms : List Mv) : List Ln → Str → V → Prop where
  | bad {ls : List Ln} {k : Nat} (h : rdAll ls = .inl k) : End14 r us ms ls "ParseError" (.int (k : Nat))
  | rule {u0 : Rul} (hu : u0 ∈ badRuls) : End14 r us ms (chLines r (u0 :: us) ms) "InvalidRule" (.int 0)
  | fine : End14 r us ms (chLines r us ms) "" .non
theorem bad_1 : ("a -> 9 1" : Str) = SX.S (ruleLine ⟨97, [], 9, 1⟩) := by decide +kernel
theorem bad_2 : ("a -> 0 0" : Str) = SX.S (ruleLine ⟨97, [], 0, 0⟩) := by decide +kernel
theorem bad_3 : ("a -> 0 100" : Str) = SX.S (ruleLine ⟨97, [], 0, 100⟩) := by decide +kernel
theorem bad_4 : ("i 7 -> 0 1" : Str) = SX.S (ruleLine ⟨105, [7], 0, 1⟩) := by decide +kernel
section
variable {P : Program} {w : World} {K : PySem.W.Frag} {mg : Str → Option Value} {base : Heap}
variable {X : Cx} {H : Hp} {nx bk ct : St → Hp → Prop} {rt : VK} {a0 fa CC CL : Addr} {o2 o3 o4 o5 o6 o7 o8 o9 o11 o12 o13 : Option V}
theorem law_b0 (C : Ctx X P w K mg base N_law (defScope s_law) 13) (hfn : ∀ y, X.fn y = true) (mL : mg "len" = none) (cOd : Cal P w K mg base CX0 "_law_odd_line" 3 1 spOddLine) (cA : Cal P w K mg base CX0 "_law_any" 2 2 (spAny K)) {r : Nat} {us : List Rul} {ms : List Mv} {H0 : Hp} {p3 L D : Addr} {n : Nat} (s : Sp14 r us ms) (hF : Feed H0 fa) (e0 : Ex H0 H) (hL0 : H0 L = none) (hL : H L = some (.lst (lnsV (chLines r us ms)))) (hD : H D = some (.tup [.str "", .non])) (hn : n ≤ us.length + ms.length)
    (h : ∀ L' D' o8' ls tg fl H', Ex H0 H' → H' L' = some (.lst (lnsV ls)) → H' D' = some (.tup [.str tg, fl]) → End14 r us ms ls tg fl → LsOk ls →
      zB X (LB.drop 8) nx rt bk ct [some (.ref a0), some (.ref fa), o2, some (.ref p3), some (.ref L'), some (.int 0), some (.int (n : Nat)), some (.ref D'), o8', o9, none, o11, o12, o13] H') :
    zB X (LB.drop 3) nx rt bk ct [some (.ref a0), some (.ref fa), o2, some (.ref p3), some (.ref L), some (.int 0), some (.int (n : Nat)), some (.ref D), o8, o9, none, o11, o12, o13] H := by
  have n_script : Nm X "_law_script" 0 := C.nm rfl (by decide +kernel)
  have n_feed_here : Nm X "_law_feed_here" 1 := C.nm rfl (by decide +kernel)
  have n_turn : Nm X "_law_turn" 2 := C.nm rfl (by decide +kernel)
  have n_spec_here : Nm X "_law_spec_here" 3 := C.nm rfl (by decide +kernel)
  have n_lines_here : Nm X "_law_lines_here" 4 := C.nm rfl (by decide +kernel)
  have n_pick : Nm X "_law_pick" 5 := C.nm rfl (by decide +kernel)
  have n_at : Nm X "_law_at" 6 := C.nm rfl (by decide +kernel)
  have n_due : Nm X "_law_due" 7 := C.nm rfl (by decide +kernel)
  have n_odd : Nm X "_law_odd" 8 := C.nm rfl (by decide +kernel)
  have n_text : Nm X "_law_text" 9 := C.nm rfl (by decide +kernel)
  have n_tail : Nm X "_law_tail" 11 := C.nm rfl (by decide +kernel)
  have n_texts : Nm X "_law_texts" 12 := C.nm rfl (by decide +kernel)
  have n_dues : Nm X "_law_dues" 13 := C.nm rfl (by decide +kernel)
  have w_feed_here : Ns X "_law_feed_here" 1 := C.ns rfl (by decide +kernel) (.inl (hfn _))
  have w_turn : Ns X "_law_turn" 2 := C.ns rfl (by decide +kernel) (.inl (hfn _))
  have w_spec_here : Ns X "_law_spec_here" 3 := C.ns rfl (by decide +kernel) (.inl (hfn _))
  have w_lines_here : Ns X "_law_lines_here" 4 := C.ns rfl (by decide +kernel) (.inl (hfn _))
  have w_pick : Ns X "_law_pick" 5 := C.ns rfl (by decide +kernel) (.inl (hfn _))
  have w_at : Ns X "_law_at" 6 := C.ns rfl (by decide +kernel) (.inl (hfn _))
  have w_due : Ns X "_law_due" 7 := C.ns rfl (by decide +kernel) (.inl (hfn _))
  have w_odd : Ns X "_law_odd" 8 := C.ns rfl (by decide +kernel) (.inl (hfn _))
  have w_text : Ns X "_law_text" 9 := C.ns rfl (by decide +kernel) (.inl (hfn _))
  have w_tail : Ns X "_law_tail" 11 := C.ns rfl (by decide +kernel) (.inl (hfn _))
  have w_texts : Ns X "_law_texts" 12 := C.ns rfl (by decide +kernel) (.inl (hfn _))
  have w_dues : Ns X "_law_dues" 13 := C.ns rfl (by decide +kernel) (.inl (hfn _))
  have hu := vd_rules s.vd
  have hm := vd_moves s.vd
  have hr : r < 1000 := by have := s.vd.r4; omega
  have u12 := s.len
  have m12 := s.vd.mo.len
  have has := chLines_as hr hu hm
  have hcl : (chLines r us ms).length = us.length + ms.length + 1 := by unfold chLines; simp
  have hll : (lnsV (chLines r us ms)).length = us.length + ms.length + 1 := by rw [← hcl]; exact List.length_map ..
  rw [show LB.drop 3 = (LB.drop 3).take 5 ++ LB.drop 8 from rfl]
  generalize LB.drop 8 = R at h ⊢
  refine b_cons ?_
  kpc_turns
  refine ⟨fa, rfl, hF.mono e0, fun l ho H1 e1 => ?_⟩
  have hL1 := e1 _ _ hL
  kpc_turns
  refine st_l hL1 (ix_ok (by omega) (by omega)) ?_
  have x1 : Xb L H1 (upd H1 L (.lst ((lnsV (chLines r us ms)).set ((n : Int)).toNat (wV l)))) := .upd
  have e01 := Xb.ex (e0.trans e1) hL0 x1
  have hL2 : (upd H1 L (.lst ((lnsV (chLines r us ms)).set ((n : Int)).toNat (wV l)))) L = some (.lst ((lnsV (chLines r us ms)).set ((n : Int)).toNat (wV l))) := upd_same
  generalize upd H1 L (.lst ((lnsV (chLines r us ms)).set ((n : Int)).toNat (wV l))) = H2 at *
  kpc_turns
  refine n_tup ?_
  kpc_turns
  refine ⟨by show 2 ≤ sizeLine; decide, fun D2 H3 n3 e3 hD3 => ?_⟩
  kpc_turns
  refine b_cons ?_
  kpc_turns
  refine b_cons ?_
  kpc_turns
  refine b_cons ?_
  kpc_turns
  refine b_cons ?_
  kpc_turns
  have hls : (lnsV (chLines r us ms)).set ((n : Int)).toNat (wV l) = lnsV ((chLines r us ms).take n ++ l :: (chLines r us ms).drop (n + 1)) := by
    unfold lnsV
    rw [Int.toNat_natCast, ← List.map_set, List.set_eq_take_append_cons_drop, if_pos (by omega)]
  refine h L D2 _ ((chLines r us ms).take n ++ l :: (chLines r us ms).drop (n + 1)) _ _ H3 (e01.trans e3) ?_ hD3 (.bad (rd_odd hr hu hm hn ho _)) ⟨fun x hx => ?_, by simp, ?_⟩
  · rw [e3 _ _ hL2, hls]
  · rw [List.mem_append, List.mem_cons] at hx
    rcases hx with hx | rfl | hx
    · exact has x (List.mem_of_mem_take hx)
    · exact ⟨ho.as, ho.len, ho.nl⟩
    · exact has x (List.mem_of_mem_drop hx)
  · rw [List.length_append, List.length_take, List.length_cons, List.length_drop]
    omega
theorem law_b1 (C : Ctx X P w K mg base N_law (defScope s_law) 13) (hfn : ∀ y, X.fn y = true) (mL : mg "len" = none) (cOd : Cal P w K mg base CX0 "_law_odd_line" 3 1 spOddLine) (cA : Cal P w K mg base CX0 "_law_any" 2 2 (spAny K)) {r : Nat} {us : List Rul} {ms : List Mv} {H0 : Hp} {p3 L D : Addr} {n : Nat} (s : Sp14 r us ms) (hF : Feed H0 fa) (e0 : Ex H0 H) (hL0 : H0 L = none) (hL : H L = some (.lst (lnsV (chLines r us ms)))) (hD : H D = some (.tup [.str "", .non])) (hn : n ≤ us.length + ms.length)
    (h : ∀ L' D' o8' ls tg fl H', Ex H0 H' → H' L' = some (.lst (lnsV ls)) → H' D' = some (.tup [.str tg, fl]) → End14 r us ms ls tg fl → LsOk ls →
      zB X (LB.drop 8) nx rt bk ct [some (.ref a0), some (.ref fa), o2, some (.ref p3), some (.ref L'), some (.int 1), some (.int (n : Nat)), some (.ref D'), o8', o9, none, o11, o12, o13] H') :
    zB X (LB.drop 3) nx rt bk ct [some (.ref a0), some (.ref fa), o2, some (.ref p3), some (.ref L), some (.int 1), some (.int (n : Nat)), some (.ref D), o8, o9, none, o11, o12, o13] H := by
  have n_script : Nm X "_law_script" 0 := C.nm rfl (by decide +kernel)
  have n_feed_here : Nm X "_law_feed_here" 1 := C.nm rfl (by decide +kernel)
  have n_turn : Nm X "_law_turn" 2 := C.nm rfl (by decide +kernel)
  have n_spec_here : Nm X "_law_spec_here" 3 := C.nm rfl (by decide +kernel)
  have n_lines_here : Nm X "_law_lines_here" 4 := C.nm rfl (by decide +kernel)
  have n_pick : Nm X "_law_pick" 5 := C.nm rfl (by decide +kernel)
  have n_at : Nm X "_law_at" 6 := C.nm rfl (by decide +kernel)
  have n_due : Nm X "_law_due" 7 := C.nm rfl (by decide +kernel)
  have n_odd : Nm X "_law_odd" 8 := C.nm rfl (by decide +kernel)
  have n_text : Nm X "_law_text" 9 := C.nm rfl (by decide +kernel)
  have n_tail : Nm X "_law_tail" 11 := C.nm rfl (by decide +kernel)
  have n_texts : Nm X "_law_texts" 12 := C.nm rfl (by decide +kernel)
  have n_dues : Nm X "_law_dues" 13 := C.nm rfl (by decide +kernel)
  have w_feed_here : Ns X "_law_feed_here" 1 := C.ns rfl (by decide +kernel) (.inl (hfn _))
  have w_turn : Ns X "_law_turn" 2 := C.ns rfl (by decide +kernel) (.inl (hfn _))
  have w_spec_here : Ns X "_law_spec_here" 3 := C.ns rfl (by decide +kernel) (.inl (hfn _))
  have w_lines_here : Ns X "_law_lines_here" 4 := C.ns rfl (by decide +kernel) (.inl (hfn _))
  have w_pick : Ns X "_law_pick" 5 := C.ns rfl (by decide +kernel) (.inl (hfn _))
  have w_at : Ns X "_law_at" 6 := C.ns rfl (by decide +kernel) (.inl (hfn _))
  have w_due : Ns X "_law_due" 7 := C.ns rfl (by decide +kernel) (.inl (hfn _))
  have w_odd : Ns X "_law_odd" 8 := C.ns rfl (by decide +kernel) (.inl (hfn _))
  have w_text : Ns X "_law_text" 9 := C.ns rfl (by decide +kernel) (.inl (hfn _))
  have w_tail : Ns X "_law_tail" 11 := C.ns rfl (by decide +kernel) (.inl (hfn _))
  have w_texts : Ns X "_law_texts" 12 := C.ns rfl (by decide +kernel) (.inl (hfn _))
  have w_dues : Ns X "_law_dues" 13 := C.ns rfl (by decide +kernel) (.inl (hfn _))
  have hu := vd_rules s.vd
  have hm := vd_moves s.vd
  have hr : r < 1000 := by have := s.vd.r4; omega
  have u12 := s.len
  have m12 := s.vd.mo.len
  have has := chLines_as hr hu hm
  have hcl : (chLines r us ms).length = us.length + ms.length + 1 := by unfold chLines; simp
  have hll : (lnsV (chLines r us ms)).length = us.length + ms.length + 1 := by rw [← hcl]; exact List.length_map ..
  rw [show LB.drop 3 = (LB.drop 3).take 5 ++ LB.drop 8 from rfl]
  generalize LB.drop 8 = R at h ⊢
  refine b_cons ?_
  kpc_turns
  refine b_cons ?_
  refine s_if ?_
  kpc_turns
  refine e_insert (e_name n_lines_here rfl ⟨L, _, rfl, hL, ?_⟩)
  kpc_turns
  refine ⟨fa, rfl, hF.mono e0, fun l ho H1 e1 => ?_⟩
  have hL1 := e1 _ _ hL
  refine ⟨_, n, rfl, hL1, small_lt (by omega), by omega, fun H2 x1 hL2 => ?_⟩
  have e01 := Xb.ex (e0.trans e1) hL0 x1
  kpc_turns
  refine n_tup ?_
  kpc_turns
  refine ⟨by show 2 ≤ sizeLine; decide, fun D2 H3 n3 e3 hD3 => ?_⟩
  kpc_turns
  refine b_cons ?_
  kpc_turns
  refine b_cons ?_
  kpc_turns
  refine b_cons ?_
  kpc_turns
  have hls : (lnsV (chLines r us ms)).take n ++ [wV l] ++ (lnsV (chLines r us ms)).drop n = lnsV ((chLines r us ms).take n ++ l :: (chLines r us ms).drop n) := by
    unfold lnsV
    rw [← List.map_take, ← List.map_drop, List.map_append, List.map_cons, List.append_assoc]
    rfl
  refine h L D2 _ ((chLines r us ms).take n ++ l :: (chLines r us ms).drop n) _ _ H3 (e01.trans e3) ?_ hD3 (.bad (rd_odd hr hu hm hn ho _)) ⟨fun x hx => ?_, by simp, ?_⟩
  · rw [e3 _ _ hL2, hls]
  · rw [List.mem_append, List.mem_cons] at hx
    rcases hx with hx | rfl | hx
    · exact has x (List.mem_of_mem_take hx)
    · exact ⟨ho.as, ho.len, ho.nl⟩
    · exact has x (List.mem_of_mem_drop hx)
  · rw [List.length_append, List.length_take, List.length_cons, List.length_drop]
    omega
theorem law_b2 (C : Ctx X P w K mg base N_law (defScope s_law) 13) (hfn : ∀ y, X.fn y = true) (mL : mg "len" = none) (cOd : Cal P w K mg base CX0 "_law_odd_line" 3 1 spOddLine) (cA : Cal P w K mg base CX0 "_law_any" 2 2 (spAny K)) {r : Nat} {us : List Rul} {ms : List Mv} {H0 : Hp} {p3 L D : Addr} {n : Nat} (s : Sp14 r us ms) (hF : Feed H0 fa) (e0 : Ex H0 H) (hL0 : H0 L = none) (hL : H L = some (.lst (lnsV (chLines r us ms)))) (hD : H D = some (.tup [.str "", .non])) (hn : n ≤ us.length + ms.length)
    (h : ∀ L' D' o8' ls tg fl H', Ex H0 H' → H' L' = some (.lst (lnsV ls)) → H' D' = some (.tup [.str tg, fl]) → End14 r us ms ls tg fl → LsOk ls →
      zB X (LB.drop 8) nx rt bk ct [some (.ref a0), some (.ref fa), o2, some (.ref p3), some (.ref L'), some (.int 2), some (.int (n : Nat)), some (.ref D'), o8', o9, none, o11, o12, o13] H') :
    zB X (LB.drop 3) nx rt bk ct [some (.ref a0), some (.ref fa), o2, some (.ref p3), some (.ref L), some (.int 2), some (.int (n : Nat)), some (.ref D), o8, o9, none, o11, o12, o13] H := by
  have n_script : Nm X "_law_script" 0 := C.nm rfl (by decide +kernel)
  have n_feed_here : Nm X "_law_feed_here" 1 := C.nm rfl (by decide +kernel)
  have n_turn : Nm X "_law_turn" 2 := C.nm rfl (by decide +kernel)
  have n_spec_here : Nm X "_law_spec_here" 3 := C.nm rfl (by decide +kernel)
  have n_lines_here : Nm X "_law_lines_here" 4 := C.nm rfl (by decide +kernel)
  have n_pick : Nm X "_law_pick" 5 := C.nm rfl (by decide +kernel)
  have n_at : Nm X "_law_at" 6 := C.nm rfl (by decide +kernel)
  have n_due : Nm X "_law_due" 7 := C.nm rfl (by decide +kernel)
  have n_odd : Nm X "_law_odd" 8 := C.nm rfl (by decide +kernel)
  have n_text : Nm X "_law_text" 9 := C.nm rfl (by decide +kernel)
  have n_tail : Nm X "_law_tail" 11 := C.nm rfl (by decide +kernel)
  have n_texts : Nm X "_law_texts" 12 := C.nm rfl (by decide +kernel)
  have n_dues : Nm X "_law_dues" 13 := C.nm rfl (by decide +kernel)
  have w_feed_here : Ns X "_law_feed_here" 1 := C.ns rfl (by decide +kernel) (.inl (hfn _))
  have w_turn : Ns X "_law_turn" 2 := C.ns rfl (by decide +kernel) (.inl (hfn _))
  have w_spec_here : Ns X "_law_spec_here" 3 := C.ns rfl (by decide +kernel) (.inl (hfn _))
  have w_lines_here : Ns X "_law_lines_here" 4 := C.ns rfl (by decide +kernel) (.inl (hfn _))
  have w_pick : Ns X "_law_pick" 5 := C.ns rfl (by decide +kernel) (.inl (hfn _))
  have w_at : Ns X "_law_at" 6 := C.ns rfl (by decide +kernel) (.inl (hfn _))
  have w_due : Ns X "_law_due" 7 := C.ns rfl (by decide +kernel) (.inl (hfn _))
  have w_odd : Ns X "_law_odd" 8 := C.ns rfl (by decide +kernel) (.inl (hfn _))
  have w_text : Ns X "_law_text" 9 := C.ns rfl (by decide +kernel) (.inl (hfn _))
  have w_tail : Ns X "_law_tail" 11 := C.ns rfl (by decide +kernel) (.inl (hfn _))
  have w_texts : Ns X "_law_texts" 12 := C.ns rfl (by decide +kernel) (.inl (hfn _))
  have w_dues : Ns X "_law_dues" 13 := C.ns rfl (by decide +kernel) (.inl (hfn _))
  have hu := vd_rules s.vd
  have hm := vd_moves s.vd
  have hr : r < 1000 := by have := s.vd.r4; omega
  have u12 := s.len
  have m12 := s.vd.mo.len
  have has := chLines_as hr hu hm
  have hcl : (chLines r us ms).length = us.length + ms.length + 1 := by unfold chLines; simp
  have hll : (lnsV (chLines r us ms)).length = us.length + ms.length + 1 := by rw [← hcl]; exact List.length_map ..
  rw [show LB.drop 3 = (LB.drop 3).take 5 ++ LB.drop 8 from rfl]
  generalize LB.drop 8 = R at h ⊢
  refine b_cons ?_
  kpc_turns
  refine b_cons ?_
  kpc_turns
  refine b_cons ?_
  kpc_turns
  have hL' := hL
  obtain ⟨hne1, hne2⟩ := s.ne
  obtain ⟨u0, us', rfl⟩ : ∃ u0 us', us = u0 :: us' := by
    cases us with
    | nil => exact absurd rfl hne1
    | cons a b => exact ⟨a, b, rfl⟩
  refine n_lst ?_
  kpc_turns
  refine n_lst ?_
  kpc_turns
  refine x_l (v := wV (roomsLine r)) (SqL.of hL) (at_ok (by decide) rfl) ?_
  kpc_turns
  refine x_l (v := wV (ruleLine u0)) (SqL.of hL) (at_ok (by decide) rfl) ?_
  kpc_turns
  refine ⟨by show 2 ≤ sizeLine; decide, fun p1 H1 n1 e1 hp1 => ?_⟩
  kpc_turns
  refine ⟨fa, .ref p1, rfl, hF.mono (e0.trans e1), .inr ⟨p1, _, rfl, by rw [← C.frg]; exact SqL.of hp1, by simp, by simp, fun x hx => ?_⟩⟩
  obtain ⟨l, rfl, hmo, hll1⟩ : ∃ l, x = wV l ∧ readMove l = none ∧ As l ∧ l.length ≤ 40 ∧ (10 : Nat) ∉ l := by
    simp only [List.mem_cons, List.not_mem_nil, or_false] at hx
    rcases hx with rfl | rfl
    · exact ⟨_, rfl, mv_rooms r, has _ (List.mem_cons_self ..)⟩
    · exact ⟨_, rfl, read_move_rule (hu u0 (List.mem_cons_self ..)).1, has _ (List.mem_cons_of_mem _ (List.mem_append_left _ (List.mem_cons_self ..)))⟩
  kpc_turns
  refine ⟨by show 1 ≤ sizeLine; decide, fun p2 H2 n2 e2 hp2 => ?_⟩
  refine o_addL (e2 _ _ (e1 _ _ hL)) hp2 (by
    rw [hll]
    have : 100 ≤ sizeLine := by decide
    show _ + 1 ≤ _
    omega) fun p3' H3 n3 e3 hp3 => ?_
  have hL3 : H3 p3' = some (.lst (lnsV (chLines r (u0 :: us') ms ++ [l]))) := by
    rw [hp3]
    unfold lnsV
    rw [List.map_append]
    rfl
  refine b_cons ?_
  kpc_turns
  refine n_tup ?_
  kpc_turns
  have hl2 : ((lnsV (chLines r (u0 :: us') ms ++ [l])).length : Int) - 1 = ((chLines r (u0 :: us') ms).length : Nat) := by
    unfold lnsV
    rw [List.length_map, List.length_append, List.length_singleton, Int.natCast_add]
    omega
  rw [hl2]
  refine ⟨by show 2 ≤ sizeLine; decide, fun D2 H4 n4 e4 hD4 => ?_⟩
  kpc_turns
  refine b_cons ?_
  kpc_turns
  refine b_cons ?_
  kpc_turns
  refine h p3' D2 _ (chLines r (u0 :: us') ms ++ [l]) _ _ H4 (e0.trans (e1.trans (e2.trans (e3.trans e4)))) (e4 _ _ hL3) hD4 (.bad (rd_more hr hu hm hne2 hmo)) ⟨fun x hx => ?_, by simp, ?_⟩
  · rw [List.mem_append, List.mem_singleton] at hx
    rcases hx with hx | rfl
    · exact has x hx
    · exact hll1
  · rw [List.length_append, hcl, List.length_singleton]
    omega
theorem law_b3 (C : Ctx X P w K mg base N_law (defScope s_law) 13) (hfn : ∀ y, X.fn y = true) (mL : mg "len" = none) (cOd : Cal P w K mg base CX0 "_law_odd_line" 3 1 spOddLine) (cA : Cal P w K mg base CX0 "_law_any" 2 2 (spAny K)) {r : Nat} {us : List Rul} {ms : List Mv} {H0 : Hp} {p3 L D : Addr} {n : Nat} (s : Sp14 r us ms) (hF : Feed H0 fa) (e0 : Ex H0 H) (hL0 : H0 L = none) (hL : H L = some (.lst (lnsV (chLines r us ms)))) (hD : H D = some (.tup [.str "", .non])) (hn : n ≤ us.length + ms.length)
    (h : ∀ L' D' o8' ls tg fl H', Ex H0 H' → H' L' = some (.lst (lnsV ls)) → H' D' = some (.tup [.str tg, fl]) → End14 r us ms ls tg fl → LsOk ls →
      zB X (LB.drop 8) nx rt bk ct [some (.ref a0), some (.ref fa), o2, some (.ref p3), some (.ref L'), some (.int 3), some (.int (n : Nat)), some (.ref D'), o8', o9, none, o11, o12, o13] H') :
    zB X (LB.drop 3) nx rt bk ct [some (.ref a0), some (.ref fa), o2, some (.ref p3), some (.ref L), some (.int 3), some (.int (n : Nat)), some (.ref D), o8, o9, none, o11, o12, o13] H := by
  have n_script : Nm X "_law_script" 0 := C.nm rfl (by decide +kernel)
  have n_feed_here : Nm X "_law_feed_here" 1 := C.nm rfl (by decide +kernel)
  have n_turn : Nm X "_law_turn" 2 := C.nm rfl (by decide +kernel)
  have n_spec_here : Nm X "_law_spec_here" 3 := C.nm rfl (by decide +kernel)
  have n_lines_here : Nm X "_law_lines_here" 4 := C.nm rfl (by decide +kernel)
  have n_pick : Nm X "_law_pick" 5 := C.nm rfl (by decide +kernel)
  have n_at : Nm X "_law_at" 6 := C.nm rfl (by decide +kernel)
  have n_due : Nm X "_law_due" 7 := C.nm rfl (by decide +kernel)
  have n_odd : Nm X "_law_odd" 8 := C.nm rfl (by decide +kernel)
  have n_text : Nm X "_law_text" 9 := C.nm rfl (by decide +kernel)
  have n_tail : Nm X "_law_tail" 11 := C.nm rfl (by decide +kernel)
  have n_texts : Nm X "_law_texts" 12 := C.nm rfl (by decide +kernel)
  have n_dues : Nm X "_law_dues" 13 := C.nm rfl (by decide +kernel)
  have w_feed_here : Ns X "_law_feed_here" 1 := C.ns rfl (by decide +kernel) (.inl (hfn _))
  have w_turn : Ns X "_law_turn" 2 := C.ns rfl (by decide +kernel) (.inl (hfn _))
  have w_spec_here : Ns X "_law_spec_here" 3 := C.ns rfl (by decide +kernel) (.inl (hfn _))
  have w_lines_here : Ns X "_law_lines_here" 4 := C.ns rfl (by decide +kernel) (.inl (hfn _))
  have w_pick : Ns X "_law_pick" 5 := C.ns rfl (by decide +kernel) (.inl (hfn _))
  have w_at : Ns X "_law_at" 6 := C.ns rfl (by decide +kernel) (.inl (hfn _))
  have w_due : Ns X "_law_due" 7 := C.ns rfl (by decide +kernel) (.inl (hfn _))
  have w_odd : Ns X "_law_odd" 8 := C.ns rfl (by decide +kernel) (.inl (hfn _))
  have w_text : Ns X "_law_text" 9 := C.ns rfl (by decide +kernel) (.inl (hfn _))
  have w_tail : Ns X "_law_tail" 11 := C.ns rfl (by decide +kernel) (.inl (hfn _))
  have w_texts : Ns X "_law_texts" 12 := C.ns rfl (by decide +kernel) (.inl (hfn _))
  have w_dues : Ns X "_law_dues" 13 := C.ns rfl (by decide +kernel) (.inl (hfn _))
  have hu := vd_rules s.vd
  have hm := vd_moves s.vd
  have hr : r < 1000 := by have := s.vd.r4; omega
  have u12 := s.len
  have m12 := s.vd.mo.len
  have has := chLines_as hr hu hm
  have hcl : (chLines r us ms).length = us.length + ms.length + 1 := by unfold chLines; simp
  have hll : (lnsV (chLines r us ms)).length = us.length + ms.length + 1 := by rw [← hcl]; exact List.length_map ..
  rw [show LB.drop 3 = (LB.drop 3).take 5 ++ LB.drop 8 from rfl]
  generalize LB.drop 8 = R at h ⊢
  refine b_cons ?_
  kpc_turns
  refine b_cons ?_
  kpc_turns
  refine b_cons ?_
  kpc_turns
  refine b_cons ?_
  kpc_turns
  refine l_sl (SqL.of hL) fun p1 H1 n1 e1 hp1 => ?_
  rw [show (1 : Int) = ((1 : Nat) : Int) from rfl, cutV_drop] at hp1
  have hL1 : H1 p1 = some (.lst (lnsV ((chLines r us ms).drop 1))) := by
    rw [hp1]
    unfold lnsV
    rw [List.map_drop]
  obtain ⟨hne1, hne2⟩ := s.ne
  obtain ⟨u0, us', rfl⟩ : ∃ u0 us', us = u0 :: us' := by
    cases us with
    | nil => exact absurd rfl hne1
    | cons a b => exact ⟨a, b, rfl⟩
  refine b_cons ?_
  kpc_turns
  refine n_tup ?_
  kpc_turns
  refine ⟨by show 2 ≤ sizeLine; decide, fun D2 H3 n3 e3 hD3 => ?_⟩
  kpc_turns
  refine b_cons ?_
  kpc_turns
  refine h p1 D2 _ ((chLines r (u0 :: us') ms).drop 1) _ _ H3 (e0.trans (e1.trans e3)) (e3 _ _ hL1) hD3 (.bad (k := 0) (rd_short (hu u0 (List.mem_cons_self ..)).1)) ⟨fun x hx => has x (List.mem_of_mem_drop hx), fun e => ?_, ?_⟩
  · have := congrArg List.length e
    rw [List.length_drop, hcl] at this
    simp at this
  · rw [List.length_drop, hcl]
    omega
theorem law_b4 (C : Ctx X P w K mg base N_law (defScope s_law) 13) (hfn : ∀ y, X.fn y = true) (mL : mg "len" = none) (cOd : Cal P w K mg base CX0 "_law_odd_line" 3 1 spOddLine) (cA : Cal P w K mg base CX0 "_law_any" 2 2 (spAny K)) {r : Nat} {us : List Rul} {ms : List Mv} {H0 : Hp} {p3 L D : Addr} {n : Nat} (s : Sp14 r us ms) (hF : Feed H0 fa) (e0 : Ex H0 H) (hL0 : H0 L = none) (hL : H L = some (.lst (lnsV (chLines r us ms)))) (hD : H D = some (.tup [.str "", .non])) (hn : n ≤ us.length + ms.length)
    (h : ∀ L' D' o8' ls tg fl H', Ex H0 H' → H' L' = some (.lst (lnsV ls)) → H' D' = some (.tup [.str tg, fl]) → End14 r us ms ls tg fl → LsOk ls →
      zB X (LB.drop 8) nx rt bk ct [some (.ref a0), some (.ref fa), o2, some (.ref p3), some (.ref L'), some (.int 4), some (.int (n : Nat)), some (.ref D'), o8', o9, none, o11, o12, o13] H') :
    zB X (LB.drop 3) nx rt bk ct [some (.ref a0), some (.ref fa), o2, some (.ref p3), some (.ref L), some (.int 4), some (.int (n : Nat)), some (.ref D), o8, o9, none, o11, o12, o13] H := by
  have n_script : Nm X "_law_script" 0 := C.nm rfl (by decide +kernel)
  have n_feed_here : Nm X "_law_feed_here" 1 := C.nm rfl (by decide +kernel)
  have n_turn : Nm X "_law_turn" 2 := C.nm rfl (by decide +kernel)
  have n_spec_here : Nm X "_law_spec_here" 3 := C.nm rfl (by decide +kernel)
  have n_lines_here : Nm X "_law_lines_here" 4 := C.nm rfl (by decide +kernel)
  have n_pick : Nm X "_law_pick" 5 := C.nm rfl (by decide +kernel)
  have n_at : Nm X "_law_at" 6 := C.nm rfl (by decide +kernel)
  have n_due : Nm X "_law_due" 7 := C.nm rfl (by decide +kernel)
  have n_odd : Nm X "_law_odd" 8 := C.nm rfl (by decide +kernel)
  have n_text : Nm X "_law_text" 9 := C.nm rfl (by decide +kernel)
  have n_tail : Nm X "_law_tail" 11 := C.nm rfl (by decide +kernel)
  have n_texts : Nm X "_law_texts" 12 := C.nm rfl (by decide +kernel)
  have n_dues : Nm X "_law_dues" 13 := C.nm rfl (by decide +kernel)
  have w_feed_here : Ns X "_law_feed_here" 1 := C.ns rfl (by decide +kernel) (.inl (hfn _))
  have w_turn : Ns X "_law_turn" 2 := C.ns rfl (by decide +kernel) (.inl (hfn _))
  have w_spec_here : Ns X "_law_spec_here" 3 := C.ns rfl (by decide +kernel) (.inl (hfn _))
  have w_lines_here : Ns X "_law_lines_here" 4 := C.ns rfl (by decide +kernel) (.inl (hfn _))
  have w_pick : Ns X "_law_pick" 5 := C.ns rfl (by decide +kernel) (.inl (hfn _))
  have w_at : Ns X "_law_at" 6 := C.ns rfl (by decide +kernel) (.inl (hfn _))
  have w_due : Ns X "_law_due" 7 := C.ns rfl (by decide +kernel) (.inl (hfn _))
  have w_odd : Ns X "_law_odd" 8 := C.ns rfl (by decide +kernel) (.inl (hfn _))
  have w_text : Ns X "_law_text" 9 := C.ns rfl (by decide +kernel) (.inl (hfn _))
  have w_tail : Ns X "_law_tail" 11 := C.ns rfl (by decide +kernel) (.inl (hfn _))
  have w_texts : Ns X "_law_texts" 12 := C.ns rfl (by decide +kernel) (.inl (hfn _))
  have w_dues : Ns X "_law_dues" 13 := C.ns rfl (by decide +kernel) (.inl (hfn _))
  have hu := vd_rules s.vd
  have hm := vd_moves s.vd
  have hr : r < 1000 := by have := s.vd.r4; omega
  have u12 := s.len
  have m12 := s.vd.mo.len
  have has := chLines_as hr hu hm
  have hcl : (chLines r us ms).length = us.length + ms.length + 1 := by unfold chLines; simp
  have hll : (lnsV (chLines r us ms)).length = us.length + ms.length + 1 := by rw [← hcl]; exact List.length_map ..
  rw [show LB.drop 3 = (LB.drop 3).take 5 ++ LB.drop 8 from rfl]
  generalize LB.drop 8 = R at h ⊢
  refine b_cons ?_
  kpc_turns
  refine b_cons ?_
  kpc_turns
  refine b_cons ?_
  kpc_turns
  refine b_cons ?_
  kpc_turns
  refine b_cons ?_
  kpc_turns
  refine n_lst ?_
  kpc_turns
  refine ⟨by show 4 ≤ sizeLine; decide, fun p1 H1 n1 e1 hp1 => ?_⟩
  kpc_turns
  refine ⟨fa, .ref p1, rfl, hF.mono (e0.trans e1), .inr ⟨p1, _, rfl, by rw [← C.frg]; exact SqL.of hp1, by simp, by simp, fun x hx => ?_⟩⟩
  obtain ⟨u0, rfl, hu0⟩ : ∃ u0, x = wV (ruleLine u0) ∧ u0 ∈ badRuls := by
    simp only [List.mem_cons, List.not_mem_nil, or_false] at hx
    rcases hx with rfl | rfl | rfl | rfl
    · exact ⟨⟨97, [], 9, 1⟩, congrArg V.str bad_1, by simp [badRuls]⟩
    · exact ⟨⟨97, [], 0, 0⟩, congrArg V.str bad_2, by simp [badRuls]⟩
    · exact ⟨⟨97, [], 0, 100⟩, congrArg V.str bad_3, by simp [badRuls]⟩
    · exact ⟨⟨105, [7], 0, 1⟩, congrArg V.str bad_4, by simp [badRuls]⟩
  have hw0 := bad_w u0 hu0
  have hL1 := e1 _ _ hL
  kpc_turns
  refine e_insert (e_name n_lines_here rfl ⟨L, _, rfl, hL1, ?_⟩)
  kpc_turns
  refine ⟨_, 1, rfl, hL1, small_lt (by omega), by omega, fun H2 x1 hL2 => ?_⟩
  have e01 := Xb.ex (e0.trans e1) hL0 x1
  kpc_turns
  refine n_tup ?_
  kpc_turns
  refine ⟨by show 2 ≤ sizeLine; decide, fun D2 H3 n3 e3 hD3 => ?_⟩
  kpc_turns
  have hls : (lnsV (chLines r us ms)).take 1 ++ [wV (ruleLine u0)] ++ (lnsV (chLines r us ms)).drop 1 = lnsV (chLines r (u0 :: us) ms) := rfl
  have has0 := chLines_as hr (us := u0 :: us) (fun u hm => by
    rcases List.mem_cons.mp hm with rfl | hm
    · exact hw0
    · exact hu u hm) hm
  refine h L D2 _ (chLines r (u0 :: us) ms) _ _ H3 (e01.trans e3) ?_ hD3 (.rule hu0) ⟨has0, by unfold chLines; simp, ?_⟩
  · rw [e3 _ _ hL2, hls]
  · unfold chLines
    simp
    omega
theorem law_b5 (C : Ctx X P w K mg base N_law (defScope s_law) 13) (hfn : ∀ y, X.fn y = true) (mL : mg "len" = none) (cOd : Cal P w K mg base CX0 "_law_odd_line" 3 1 spOddLine) (cA : Cal P w K mg base CX0 "_law_any" 2 2 (spAny K)) {r : Nat} {us : List Rul} {ms : List Mv} {H0 : Hp} {p3 L D : Addr} {n : Nat} (s : Sp14 r us ms) (hF : Feed H0 fa) (e0 : Ex H0 H) (hL0 : H0 L = none) (hL : H L = some (.lst (lnsV (chLines r us ms)))) (hD : H D = some (.tup [.str "", .non])) (hn : n ≤ us.length + ms.length)
    (h : ∀ L' D' o8' ls tg fl H', Ex H0 H' → H' L' = some (.lst (lnsV ls)) → H' D' = some (.tup [.str tg, fl]) → End14 r us ms ls tg fl → LsOk ls →
      zB X (LB.drop 8) nx rt bk ct [some (.ref a0), some (.ref fa), o2, some (.ref p3), some (.ref L'), some (.int 5), some (.int (n : Nat)), some (.ref D'), o8', o9, none, o11, o12, o13] H') :
    zB X (LB.drop 3) nx rt bk ct [some (.ref a0), some (.ref fa), o2, some (.ref p3), some (.ref L), some (.int 5), some (.int (n : Nat)), some (.ref D), o8, o9, none, o11, o12, o13] H := by
  have n_script : Nm X "_law_script" 0 := C.nm rfl (by decide +kernel)
  have n_feed_here : Nm X "_law_feed_here" 1 := C.nm rfl (by decide +kernel)
  have n_turn : Nm X "_law_turn" 2 := C.nm rfl (by decide +kernel)
  have n_spec_here : Nm X "_law_spec_here" 3 := C.nm rfl (by decide +kernel)
  have n_lines_here : Nm X "_law_lines_here" 4 := C.nm rfl (by decide +kernel)
  have n_pick : Nm X "_law_pick" 5 := C.nm rfl (by decide +kernel)
  have n_at : Nm X "_law_at" 6 := C.nm rfl (by decide +kernel)
  have n_due : Nm X "_law_due" 7 := C.nm rfl (by decide +kernel)
  have n_odd : Nm X "_law_odd" 8 := C.nm rfl (by decide +kernel)
  have n_text : Nm X "_law_text" 9 := C.nm rfl (by decide +kernel)
  have n_tail : Nm X "_law_tail" 11 := C.nm rfl (by decide +kernel)
  have n_texts : Nm X "_law_texts" 12 := C.nm rfl (by decide +kernel)
  have n_dues : Nm X "_law_dues" 13 := C.nm rfl (by decide +kernel)
  have w_feed_here : Ns X "_law_feed_here" 1 := C.ns rfl (by decide +kernel) (.inl (hfn _))
  have w_turn : Ns X "_law_turn" 2 := C.ns rfl (by decide +kernel) (.inl (hfn _))
  have w_spec_here : Ns X "_law_spec_here" 3 := C.ns rfl (by decide +kernel) (.inl (hfn _))
  have w_lines_here : Ns X "_law_lines_here" 4 := C.ns rfl (by decide +kernel) (.inl (hfn _))
  have w_pick : Ns X "_law_pick" 5 := C.ns rfl (by decide +kernel) (.inl (hfn _))
  have w_at : Ns X "_law_at" 6 := C.ns rfl (by decide +kernel) (.inl (hfn _))
  have w_due : Ns X "_law_due" 7 := C.ns rfl (by decide +kernel) (.inl (hfn _))
  have w_odd : Ns X "_law_odd" 8 := C.ns rfl (by decide +kernel) (.inl (hfn _))
  have w_text : Ns X "_law_text" 9 := C.ns rfl (by decide +kernel) (.inl (hfn _))
  have w_tail : Ns X "_law_tail" 11 := C.ns rfl (by decide +kernel) (.inl (hfn _))
  have w_texts : Ns X "_law_texts" 12 := C.ns rfl (by decide +kernel) (.inl (hfn _))
  have w_dues : Ns X "_law_dues" 13 := C.ns rfl (by decide +kernel) (.inl (hfn _))
  have hu := vd_rules s.vd
  have hm := vd_moves s.vd
  have hr : r < 1000 := by have := s.vd.r4; omega
  have u12 := s.len
  have m12 := s.vd.mo.len
  have has := chLines_as hr hu hm
  have hcl : (chLines r us ms).length = us.length + ms.length + 1 := by unfold chLines; simp
  have hll : (lnsV (chLines r us ms)).length = us.length + ms.length + 1 := by rw [← hcl]; exact List.length_map ..
  rw [show LB.drop 3 = (LB.drop 3).take 5 ++ LB.drop 8 from rfl]
  generalize LB.drop 8 = R at h ⊢
  refine b_cons ?_
  kpc_turns
  refine b_cons ?_
  kpc_turns
  refine b_cons ?_
  kpc_turns
  refine b_cons ?_
  kpc_turns
  refine b_cons ?_
  kpc_turns
  exact h L D _ _ _ _ H e0 hL hD .fine ⟨has, by rw [Ne, ← List.length_eq_zero_iff]; omega, by omega⟩
end

/-! k14: the law's text and its tail -/
/-- how the reading of text and tail ends -/
inductive Fin14 (r : Nat) (us : List Rul) (ms : List Mv) : List Ln → Ln → Str → V → Prop where
  | bad {ls : List Ln} {rest : Ln} {k : Nat} (h : rdAll ls = .inl k) : Fin14 r us ms ls rest "ParseError" (.int (k : Nat))
  | tail {ls : List Ln} {rest : Ln} {x : Nat × List Rul × List Mv} (h : rdAll ls = .inr x) (hne : rest ≠ []) : Fin14 r us ms ls rest "ParseError" (.int (ls.length : Nat))
  | rule {u0 : Rul} (hu : u0 ∈ badRuls) : Fin14 r us ms (chLines r (u0 :: us) ms) [] "InvalidRule" (.int 0)
  | fine : Fin14 r us ms (chLines r us ms) [] "" .non
section
variable {P : Program} {w : World} {K : PySem.W.Frag} {mg : Str → Option Value} {base : Heap}
variable {X : Cx} {H : Hp} {nx bk ct : St → Hp → Prop} {rt : VK} {a0 fa CC CL : Addr} {o2 o3 o4 o5 o6 o7 o8 o9 o11 o12 o13 : Option V}
theorem law_c (C : Ctx X P w K mg base N_law (defScope s_law) 13) (hfn : ∀ y, X.fn y = true) (mL : mg "len" = none) (cA : Cal P w K mg base CX0 "_law_any" 2 2 (spAny K)) {r : Nat} {us : List Rul} {ms : List Mv} {L D : Addr} {ls : List Ln} {tg : Str} {fl : V} (s : Sp14 r us ms) (hF : Feed H fa) (hL : H L = some (.lst (lnsV ls))) (hD : H D = some (.tup [.str tg, fl])) (he : End14 r us ms ls tg fl) (hok : LsOk ls)
    (h : ∀ D' rest tg' fl' H', Ex H H' → H' D' = some (.tup [.str tg', fl']) → Fin14 r us ms ls rest tg' fl' → As rest → (10 : Nat) ∉ rest → rest.length ≤ 40 →
      zB X (LB.drop 11) nx rt bk ct [some (.ref a0), some (.ref fa), o2, o3, some (.ref L), o5, o6, some (.ref D'), o8, some (wV (textL ls)), none, some (wV rest), o12, o13] H') :
    zB X (LB.drop 8) nx rt bk ct [some (.ref a0), some (.ref fa), o2, o3, some (.ref L), o5, o6, some (.ref D), o8, o9, none, o11, o12, o13] H := by
  have n_script : Nm X "_law_script" 0 := C.nm rfl (by decide +kernel)
  have n_feed_here : Nm X "_law_feed_here" 1 := C.nm rfl (by decide +kernel)
  have n_turn : Nm X "_law_turn" 2 := C.nm rfl (by decide +kernel)
  have n_spec_here : Nm X "_law_spec_here" 3 := C.nm rfl (by decide +kernel)
  have n_lines_here : Nm X "_law_lines_here" 4 := C.nm rfl (by decide +kernel)
  have n_pick : Nm X "_law_pick" 5 := C.nm rfl (by decide +kernel)
  have n_at : Nm X "_law_at" 6 := C.nm rfl (by decide +kernel)
  have n_due : Nm X "_law_due" 7 := C.nm rfl (by decide +kernel)
  have n_odd : Nm X "_law_odd" 8 := C.nm rfl (by decide +kernel)
  have n_text : Nm X "_law_text" 9 := C.nm rfl (by decide +kernel)
  have n_tail : Nm X "_law_tail" 11 := C.nm rfl (by decide +kernel)
  have n_texts : Nm X "_law_texts" 12 := C.nm rfl (by decide +kernel)
  have n_dues : Nm X "_law_dues" 13 := C.nm rfl (by decide +kernel)
  have w_feed_here : Ns X "_law_feed_here" 1 := C.ns rfl (by decide +kernel) (.inl (hfn _))
  have w_turn : Ns X "_law_turn" 2 := C.ns rfl (by decide +kernel) (.inl (hfn _))
  have w_spec_here : Ns X "_law_spec_here" 3 := C.ns rfl (by decide +kernel) (.inl (hfn _))
  have w_lines_here : Ns X "_law_lines_here" 4 := C.ns rfl (by decide +kernel) (.inl (hfn _))
  have w_pick : Ns X "_law_pick" 5 := C.ns rfl (by decide +kernel) (.inl (hfn _))
  have w_at : Ns X "_law_at" 6 := C.ns rfl (by decide +kernel) (.inl (hfn _))
  have w_due : Ns X "_law_due" 7 := C.ns rfl (by decide +kernel) (.inl (hfn _))
  have w_odd : Ns X "_law_odd" 8 := C.ns rfl (by decide +kernel) (.inl (hfn _))
  have w_text : Ns X "_law_text" 9 := C.ns rfl (by decide +kernel) (.inl (hfn _))
  have w_tail : Ns X "_law_tail" 11 := C.ns rfl (by decide +kernel) (.inl (hfn _))
  have w_texts : Ns X "_law_texts" 12 := C.ns rfl (by decide +kernel) (.inl (hfn _))
  have w_dues : Ns X "_law_dues" 13 := C.ns rfl (by decide +kernel) (.inl (hfn _))
  obtain ⟨hls, hne, hn⟩ := hok
  have hu := vd_rules s.vd
  have hm := vd_moves s.vd
  have hr : r < 1000 := by have := s.vd.r4; omega
  rw [show LB.drop 8 = (LB.drop 8).take 3 ++ LB.drop 11 from rfl]
  generalize LB.drop 11 = R at h ⊢
  refine b_cons ?_
  kpc_turns
  refine e_lc (own := [("_law_line_here", 10)]) C (by decide +kernel) (i_list ?_)
  kpc_turns
  have hp1 : SqL X.K H L (lnsV ls) := SqL.of hL
  have hll : (lnsV ls).length = ls.length := List.length_map ..
  refine ⟨L, rfl, ⟨_, hp1⟩, _, _, _, _, walk_list L _, Z.comp_map (j := 10) C (fun t => wV (ls.getD t [] ++ [10])) (by omega) (fun H' e => ex_l e hp1) rfl (by decide +kernel) (fun _ => rfl) ?_, ?_⟩
  · rintro t v H2 ht e2 hv X1 C1
    have n_line_here : Nm X1 "_law_line_here" 10 := C1.nm rfl (by decide +kernel)
    have w_line_here : Ns X1 "_law_line_here" 10 := C1.ns rfl (by decide +kernel) (.inr (by decide +kernel))
    unfold lnsV at hv
    rw [List.getElem?_map] at hv
    obtain ⟨l, hl, rfl⟩ := Option.map_eq_some_iff.mp hv
    have e0 : ("\n" : Str) = SX.S [10] := rfl
    have big : 100000 < sizeLine := by decide
    kpc_turns
    rw [e0]
    refine o_addS (u := SX.S l) (by rw [len_S]; have := (hls l (List.mem_of_getElem? hl)).2.1; show _ + 1 ≤ _; omega) ?_
    rw [SX.S_cat]
    refine ⟨Evl.Ex.refl _, ?_⟩
    rw [List.getD_eq_getElem?_getD, hl]
    rfl
  intro D2 ys H2 nD e2 hD2 hy
  have hy2 : ys = ((ls.map fun l => l ++ [10]).map SX.S).map V.str := by
    rw [hy, hll]
    refine List.ext_getElem (by simp) fun i h1 h2 => ?_
    rw [List.getElem_map, List.getElem_map, List.getElem_map, List.getElem_map, List.getElem_range, List.getD_eq_getElem?_getD, List.getElem?_eq_getElem (by simpa using h2)]
    rfl
  subst hy2
  have hB := sum_W (ls := ls.map fun l => l ++ [10]) (B := 41) fun l hl => by
    obtain ⟨x, hx, rfl⟩ := List.mem_map.mp hl
    have := (hls x hx).2.1
    rw [List.length_append]
    show _ + 1 ≤ _
    omega
  rw [List.length_map] at hB
  have hz : ("" : Str).length = 0 := rfl
  refine ⟨D2, _, rfl, SqL.of hD2, ?_, ?_⟩
  · rw [hz, Nat.mul_zero, Nat.add_zero]
    exact Nat.le_trans hB (by omega)
  have e0 : ("" : Str) = SX.S [] := rfl
  have e9 : TL.joinL [] (ls.map fun l => l ++ [10]) = textL ls := joinL_nil _
  rw [e0, join_W, e9]
  refine b_cons ?_
  kpc_turns
  refine n_lst ?_
  kpc_turns
  obtain ⟨lz, hlz⟩ : ∃ lz, ls.getLast? = some lz := by
    cases h : ls.getLast? with
    | none => exact absurd (List.getLast?_eq_none_iff.mp h) hne
    | some x => exact ⟨x, rfl⟩
  have hlzm : lz ∈ ls := List.mem_of_getLast? hlz
  have hL2 := e2 _ _ hL
  refine x_l (v := wV lz) (SqL.of hL2) (at_last (by unfold lnsV; rw [List.getLast?_map, hlz]; rfl)) ?_
  kpc_turns
  refine ⟨by show 4 ≤ sizeLine; decide, fun p3 H3 n3 e3 hp3 => ?_⟩
  have e23 := e2.trans e3
  have hL3 := e3 _ _ hL2
  have hD3 := e23 _ _ hD
  kpc_turns
  refine ⟨fa, .ref p3, rfl, hF.mono e23, .inr ⟨p3, _, rfl, by rw [← C.frg]; exact SqL.of hp3, by simp, by simp, fun x hx => ?_⟩⟩
  obtain ⟨rest, rfl, hra, hr40, hr10⟩ : ∃ rest, x = wV rest ∧ As rest ∧ rest.length ≤ 40 ∧ (10 : Nat) ∉ rest := by
    simp only [List.mem_cons, List.not_mem_nil, or_false] at hx
    rcases hx with rfl | rfl | rfl | rfl
    · exact ⟨[], rfl, ⟨fun c hc => (by cases hc), by simp⟩, by simp, by simp⟩
    · exact ⟨[120], rfl, ⟨fun c hc => by rw [List.mem_singleton.mp hc]; decide, by simp⟩, by simp, by simp⟩
    · exact ⟨lz, rfl, hls lz hlzm⟩
    · exact ⟨[32], rfl, ⟨fun c hc => by rw [List.mem_singleton.mp hc]; decide, by simp⟩, by simp, by simp⟩
  refine b_cons ?_
  kpc_turns
  cases he with
  | bad hb =>
    refine if_cf (by simp) (b_nil ?_)
    exact h D rest _ _ H3 e23 hD3 (.bad hb) hra hr10 hr40
  | rule hu0 =>
    have hrd := rdAll_ok hr (us := _ :: us) (fun u hm => (List.mem_cons.mp hm).elim (fun e => e ▸ bad_w _ hu0) (hu u)) hm
    refine if_ct (by decide) ?_
    kpc_turns
    refine o_neS (u := SX.S rest) (v := SX.S []) ?_
    refine ⟨_, rfl, ?_⟩
    by_cases hre : rest = []
    · subst hre
      refine if_cf (by simp) (b_nil ?_)
      exact h D [] _ _ H3 e23 hD3 (.rule hu0) hra hr10 hr40
    · refine if_ct (by rw [decide_eq_false fun e => hre (SX.S_inj e)]; rfl) ?_
      refine b_cons ?_
      kpc_turns
      refine n_tup ?_
      kpc_turns
      rw [hll]
      refine ⟨by show 2 ≤ sizeLine; decide, fun D4 H4 n4 e4 hD4 => b_nil ?_⟩
      exact h D4 rest _ _ H4 (e23.trans e4) hD4 (.tail hrd hre) hra hr10 hr40
  | fine =>
    have hrd := rdAll_ok hr hu hm
    refine if_ct (by decide) ?_
    kpc_turns
    refine o_neS (u := SX.S rest) (v := SX.S []) ?_
    refine ⟨_, rfl, ?_⟩
    by_cases hre : rest = []
    · subst hre
      refine if_cf (by simp) (b_nil ?_)
      exact h D [] _ _ H3 e23 hD3 .fine hra hr10 hr40
    · refine if_ct (by rw [decide_eq_false fun e => hre (SX.S_inj e)]; rfl) ?_
      refine b_cons ?_
      kpc_turns
      refine n_tup ?_
      kpc_turns
      rw [hll]
      refine ⟨by show 2 ≤ sizeLine; decide, fun D4 H4 n4 e4 hD4 => b_nil ?_⟩
      exact h D4 rest _ _ H4 (e23.trans e4) hD4 (.tail hrd hre) hra hr10 hr40
end

/-! k14: what is refused -/
/-- makers: what stands, what is no chooser, rooms that are not joined -/
def spInit3 (K : PySem.W.Frag) (CC CL CU CRo CTm CR CM : Addr) : Sp := fun vs H Q E => (spInitE K CC CL vs H Q E ∨ spInitX K CC CRo CTm CR CM vs H Q E) ∨ spInitU K CC CU vs H Q E
/-- the errors' classes, and how they are caught -/
structure Kit14 (P : Program) (w : World) (K : PySem.W.Frag) (mg : Str → Option Value) (base : Heap) (CC CL CU CRo CTm CR CM CP : Addr) (cl : Str → Addr) : Prop where
  gR : Gets P w K mg base "_law_refused" 10 (TRef K cl)
  cP : Cal P w K mg base (L2.CX P w) "parse_chooser" 7 1 (spParse CP CC (spInit3 K CC CL CU CRo CTm CR CM))
  ctP : Caught K cl CP 10 (some "line")
  ctR : Caught K cl CR 0 (some "index")
  ctRo : Caught K cl CRo 1 (some "given")
  ctU : Caught K cl CU 5 (some "room")
  ctL : Caught K cl CL 4 none
section
variable {P : Program} {w : World} {K : PySem.W.Frag} {mg : Str → Option Value} {base : Heap}
variable {X : Cx} {H : Hp} {nx bk ct : St → Hp → Prop} {rt : VK} {a0 fa CC CL CU CRo CTm CR CM CP c T : Addr} {cl : Str → Addr} {o2 o3 o4 o5 o6 o7 o8 o9 o11 o12 o13 : Option V}
/-- what parse_chooser is asked at the law's text -/
theorem fin_parse {r : Nat} {us : List Rul} {ms : List Mv} {ls : List Ln} {rest : Ln} {tg : Str} {fl : V} (s : Sp14 r us ms) (hf : Fin14 r us ms ls rest tg fl) (hok : LsOk ls) (hra : As rest) (hr10 : (10 : Nat) ∉ rest) (hr40 : rest.length ≤ 40) {H0 : Hp} {Q : VK} {E' : XK}
    (h1 : tg = "" → fl = .non → ∀ v H1, Ex H0 H1 → Q v H1) (h2 : tg = "ParseError" → Out E' H0 CP "ParseError" "line" fl) (h3 : tg = "InvalidRule" → fl = .int 0 → Out E' H0 CR "InvalidRule" "index" (.int 0)) :
    spParse CP CC (spInit3 K CC CL CU CRo CTm CR CM) [wV (textL ls ++ rest)] H0 Q E' := by
  obtain ⟨hls, hne, hn⟩ := hok
  have hu := vd_rules s.vd
  have hm := vd_moves s.vd
  have hV := s.vd
  have hr : r < 1000 := by have := s.vd.r4; omega
  have htl := textL_len (B := 40) fun l hl => (hls l hl).2.1
  refine ⟨textL ls ++ rest, rest, ls, rfl, ⟨rfl, fun l hl => (hls l hl).2.2, hr10, fun l hl => ⟨(hls l hl).1, by have := (hls l hl).2.1; omega⟩, hra, by omega, by rw [List.length_append]; omega⟩, fun k hk => ?_, fun x hx hne => ?_, fun r' us' ms' hx hrest rl ml rxs mxs H3 e3 hrl hru hml hmv b dx nb ndx dxb => ?_⟩
  · cases hf with
    | bad hb =>
      rw [hb] at hk
      cases hk
      exact h2 rfl
    | tail h _ => rw [h] at hk; cases hk
    | rule hu0 =>
      rw [rdAll_ok hr (us := _ :: us) (fun u hm => (List.mem_cons.mp hm).elim (fun e => e ▸ bad_w _ hu0) (hu u)) hm] at hk
      cases hk
    | fine => rw [rdAll_ok hr hu hm] at hk; cases hk
  · cases hf with
    | bad hb => rw [hb] at hx; cases hx
    | tail h _ => exact h2 rfl
    | rule hu0 => exact absurd rfl hne
    | fine => exact absurd rfl hne
  · cases hf with
    | bad hb => rw [hb] at hx; cases hx
    | tail h hne => exact absurd hrest hne
    | @rule u0 hu0 =>
      rw [rdAll_ok hr (us := u0 :: us) (fun u hm => (List.mem_cons.mp hm).elim (fun e => e ▸ bad_w _ hu0) (hu u)) hm] at hx
      cases hx
      cases hru with
      | @cons x0 _ rxs' _ hx0 hru' =>
      obtain ⟨ys0, q1, q2⟩ := bad_v hx0 hu0 hV.r4
      obtain ⟨yss, q3, q4⟩ := rules_paired hru' (fun u hu => hV.ok u hu) (Evl.Ex.refl H3)
      have hl1 := paired_len hru'
      have hl2 := paired_len hmv
      have hl3 := s.len
      have hl4 := hV.mo.len
      refine .inl (.inr ⟨b, dx, rl, ml, r, H3, x0 :: rxs', mxs, ys0 :: yss, true, rfl, rfl, nb, ndx, dxb, SqL.of hrl, .cons q1 q3, by rw [List.length_cons]; omega, SqL.of hml, by omega, fun hno => absurd ⟨by have := hV.r1; omega, by have := hV.r4; omega⟩ hno, fun _ _ => ⟨fun h24 => ?_, fun _ => ⟨fun i ys hi hv hb => ?_, fun hall => ?_⟩⟩⟩)
      · rw [List.length_cons] at h24
        omega
      · cases i with
        | zero => exact fun d H' e' hd => h3 rfl rfl d H' (e3.trans e') hd
        | succ i =>
          have := hb 0 ys0 (Nat.succ_pos i) rfl
          rw [q2] at this
          cases this
      · have := hall ys0 (List.mem_cons_self ..)
        rw [q2] at this
        cases this
    | fine =>
      rw [rdAll_ok hr hu hm] at hx
      cases hx
      refine .inl (.inl ⟨b, dx, rl, ml, r, H3, rxs, mxs, us, ms, true, rfl, rfl, nb, ndx, dxb, hV.r1, hV.r4, SqL.of hrl, hru, hV.len, hV.ok, fun no => absurd no s.leaf, SqL.of hml, hmv, hV.mo, hV.jo, fun H4 _ e4 hch => ⟨rfl, ?_⟩⟩)
      exact h1 rfl rfl _ H4 (e3.trans e4)
end

/-! small things for the laws -/
theorem str_len (z : Str) : z.length = (tl z).length := len_tl z
theorem draw_to {a : Addr} {n : Int} {H : Hp} {Q : VK} {E : XK} (hf : Feed H a) (h0 : 0 < n) (h1 : n < 1073741824) (h : ∀ d : Nat, (d : Int) < n → Q (.int d) H) : spDraw [.ref a, .int n] H Q E :=
  draw_n hf h0 h1 fun d h2 h3 => by
    obtain ⟨m, rfl⟩ : ∃ m : Nat, d = m := ⟨d.toNat, by omega⟩
    exact h m h3
theorem takeS_len (z : Str) (n : Nat) : (cutS z none (some (n : Int))).length ≤ z.length := by rw [str_len, cutS_take, str_len, List.length_take]; omega
theorem dropS_len (z : Str) (n : Nat) : (cutS z (some (n : Int)) none).length ≤ z.length := by rw [str_len, cutS_drop, str_len, List.length_drop]; omega
theorem app_len (u v : Str) : (u ++ v).length = u.length + v.length := by rw [str_len, tl_app, List.length_append, str_len, str_len]
theorem Feed.extN {H H' : Hp} {a : Addr} (f : Feed H a) (e : LamX.ExtN H H') : Feed H' a := by
  obtain ⟨ca, cells, h1, h2, h3⟩ := f.ex
  exact ⟨ca, cells, e _ _ h1 (fun ps z => by unfold FeedO at z; cases z), e _ _ h2 (fun ps z => by cases z), h3⟩
theorem sh_sn {a : Str} (h : PyData.strOk a = true) : SeqAt.shaped (.tuple [.str a, .none]) = true := by simp [h, SeqAt.shaped, PyData.canLay0, PyData.canLayAll0, PyData.depth, PyData.depthAll]
theorem sh_si {a : Str} (h : PyData.strOk a = true) (i : Int) : SeqAt.shaped (.tuple [.str a, .int i]) = true := by simp [h, SeqAt.shaped, PyData.canLay0, PyData.canLayAll0, PyData.depth, PyData.depthAll]
theorem eqv_sn (a : Str) : PyData.eqv (.tuple [.str a, .none]) (.tuple [.str a, .none]) = true := by simp [PyData.eqv, PyData.eqvAll]
theorem eqv_si (a : Str) (i : Int) : PyData.eqv (.tuple [.str a, .int i]) (.tuple [.str a, .int i]) = true := by simp [PyData.eqv, PyData.eqvAll]
section
variable {P : Program} {w : World} {K : PySem.W.Frag} {mg : Str → Option Value} {base : Heap}
theorem pair_ne {T T' : Addr} {X : Cx} {H : Hp} {a b : V} {d e : PyData} {Q : VK} {N : List Str} {sc : Scope} {k : Nat} (C : Ctx X P w K mg base N sc k) (h1 : H T = some (.tup [a, b])) (h2 : H T' = some (.tup [a, b])) (ha : Dp X.K H a d) (hb : Dp X.K H b e) (sd : SeqAt.shaped (.tuple [d, e]) = true) (ev : PyData.eqv (.tuple [d, e]) (.tuple [d, e]) = true) (q : Q (.bl false) H) : zO X (compareOp .NotEq) (.ref T) (.ref T') H Q :=
  o_neD C (dp_pair h1 ha hb) (dp_pair h2 ha hb) sd sd (by rw [ev]; exact q)
end
theorem extN_xb {H0 H H' : Hp} {D : Addr} (e : LamX.ExtN H0 H) (n : H0 D = none) (x : Xb D H H') : LamX.ExtN H0 H' := fun b o h nt => x b o (fun z => by rw [z, n] at h; cases h) (e b o h nt)
theorem tabS_xb {H H' : Hp} {D T : Addr} {q : Str} {ys : List V} (t : LamX.TabS H T q) (hD : H D = some (.lst ys)) (x : Xb D H H') : LamX.TabS H' T q := by
  obtain ⟨ps, h1, h2, h3⟩ := t
  refine ⟨ps, x _ _ (fun z => by rw [z, hD] at h1; cases h1) h1, h2, fun pos cv hc => ?_⟩
  obtain ⟨c, e, h⟩ := h3 pos cv hc
  exact ⟨c, e, x _ _ (fun z => by rw [z, hD] at h; unfold LamX.CodeO at h; cases h) h⟩

/-! k14: a turn's ask -/
theorem sh_n14 {a : Str} (h : PyData.strOk a = true) : SeqAt.shaped (.tuple [.str a, .none]) = true := by simp [h, SeqAt.shaped, PyData.canLay0, PyData.canLayAll0, PyData.depth, PyData.depthAll]
theorem sh_i14 {a : Str} (h : PyData.strOk a = true) (i : Int) : SeqAt.shaped (.tuple [.str a, .int i]) = true := by simp [h, SeqAt.shaped, PyData.canLay0, PyData.canLayAll0, PyData.depth, PyData.depthAll]
section
variable {P : Program} {w : World} {K : PySem.W.Frag} {mg : Str → Option Value} {base : Heap}
variable {X : Cx} {H : Hp} {nx bk ct : St → Hp → Prop} {rt : VK} {a0 fa CC CL CU CRo CTm CR CM CP c T : Addr} {cl : Str → Addr} {o2 o3 o4 o5 o6 o7 o8 o9 o11 o12 o13 : Option V}
theorem law_e (C : Ctx X P w K mg base N_law (defScope s_law) 13) (hfn : ∀ y, X.fn y = true) (Lm : LamT X c T) (k : Kit14 P w K mg base CC CL CU CRo CTm CR CM CP cl) (tb : LamX.Tabs [(T, X.env.qual ++ "<lambda>")] H) {r : Nat} {us : List Rul} {ms : List Mv} {L D : Addr} {ls : List Ln} {rest : Ln} {tg : Str} {fl : V} (s : Sp14 r us ms) (hL : H L = some (.lst (lnsV ls))) (hD : H D = some (.tup [.str tg, fl])) (hf : Fin14 r us ms ls rest tg fl) (hok : LsOk ls) (hra : As rest) (hr10 : (10 : Nat) ∉ rest) (hr40 : rest.length ≤ 40)
    (h : ∀ H', LamX.ExtN H H' → LamX.Tabs [(T, X.env.qual ++ "<lambda>")] H' → nx [some (.ref a0), some (.ref fa), o2, o3, some (.ref L), o5, o6, some (.ref D), o8, some (wV (textL ls)), none, some (wV rest), o12, o13] H') :
    zB X (LB.drop 11) nx rt bk ct [some (.ref a0), some (.ref fa), o2, o3, some (.ref L), o5, o6, some (.ref D), o8, some (wV (textL ls)), none, some (wV rest), o12, o13] H := by
  have n_script : Nm X "_law_script" 0 := C.nm rfl (by decide +kernel)
  have n_feed_here : Nm X "_law_feed_here" 1 := C.nm rfl (by decide +kernel)
  have n_turn : Nm X "_law_turn" 2 := C.nm rfl (by decide +kernel)
  have n_spec_here : Nm X "_law_spec_here" 3 := C.nm rfl (by decide +kernel)
  have n_lines_here : Nm X "_law_lines_here" 4 := C.nm rfl (by decide +kernel)
  have n_pick : Nm X "_law_pick" 5 := C.nm rfl (by decide +kernel)
  have n_at : Nm X "_law_at" 6 := C.nm rfl (by decide +kernel)
  have n_due : Nm X "_law_due" 7 := C.nm rfl (by decide +kernel)
  have n_odd : Nm X "_law_odd" 8 := C.nm rfl (by decide +kernel)
  have n_text : Nm X "_law_text" 9 := C.nm rfl (by decide +kernel)
  have n_tail : Nm X "_law_tail" 11 := C.nm rfl (by decide +kernel)
  have n_texts : Nm X "_law_texts" 12 := C.nm rfl (by decide +kernel)
  have n_dues : Nm X "_law_dues" 13 := C.nm rfl (by decide +kernel)
  have w_feed_here : Ns X "_law_feed_here" 1 := C.ns rfl (by decide +kernel) (.inl (hfn _))
  have w_turn : Ns X "_law_turn" 2 := C.ns rfl (by decide +kernel) (.inl (hfn _))
  have w_spec_here : Ns X "_law_spec_here" 3 := C.ns rfl (by decide +kernel) (.inl (hfn _))
  have w_lines_here : Ns X "_law_lines_here" 4 := C.ns rfl (by decide +kernel) (.inl (hfn _))
  have w_pick : Ns X "_law_pick" 5 := C.ns rfl (by decide +kernel) (.inl (hfn _))
  have w_at : Ns X "_law_at" 6 := C.ns rfl (by decide +kernel) (.inl (hfn _))
  have w_due : Ns X "_law_due" 7 := C.ns rfl (by decide +kernel) (.inl (hfn _))
  have w_odd : Ns X "_law_odd" 8 := C.ns rfl (by decide +kernel) (.inl (hfn _))
  have w_text : Ns X "_law_text" 9 := C.ns rfl (by decide +kernel) (.inl (hfn _))
  have w_tail : Ns X "_law_tail" 11 := C.ns rfl (by decide +kernel) (.inl (hfn _))
  have w_texts : Ns X "_law_texts" 12 := C.ns rfl (by decide +kernel) (.inl (hfn _))
  have w_dues : Ns X "_law_dues" 13 := C.ns rfl (by decide +kernel) (.inl (hfn _))
  have cP := k.cP
  refine b_cons ?_
  kpc_turns
  refine e_lam C Lm k.gR (by decide) (by decide +kernel) tb fun H1 xn tb1 => ?_
  have hB := hok.1
  have htl := textL_len (B := 40) fun l hl => (hok.1 l hl).2.1
  have hn := hok.2.2
  have big : 100000 < sizeLine := by decide
  obtain (⟨rfl, rfl⟩ | ⟨rfl, i, rfl⟩ | ⟨rfl, rfl⟩) : (tg = "" ∧ fl = .non) ∨ (tg = "ParseError" ∧ ∃ i : Int, fl = .int i) ∨ (tg = "InvalidRule" ∧ fl = .int 0) := by
    cases hf with
    | bad h => exact .inr (.inl ⟨rfl, _, rfl⟩)
    | tail h hne => exact .inr (.inl ⟨rfl, _, rfl⟩)
    | rule hu => exact .inr (.inr ⟨rfl, rfl⟩)
    | fine => exact .inl ⟨rfl, rfl⟩
  · refine tref_ok (fun E' H0 Q' e0 hQ X2 C2 tk2 => ?_) fun T2 H2 e2 hT2 => ?_
    · kpc_turns
      refine e_name (C2.nm (x := "_law_text") (i := 9) rfl (by decide +kernel)) rfl ?_
      refine e_name (C2.nm (x := "_law_tail") (i := 11) rfl (by decide +kernel)) rfl ?_
      refine o_addS (u := SX.S (textL ls)) (v := SX.S rest) (by rw [len_S, len_S]; omega) ?_
      rw [SX.S_cat]
      refine a_nil (fin_parse s hf hok hra hr10 hr40 (fun _ _ => hQ) (fun e => absurd e (by decide)) fun e => absurd e (by decide))
    · kpc_turns
      have hD2 := e2 _ _ (xn _ _ hD (fun _ z => by cases z))
      refine o_neD C (dp_pair hT2 (.str _) .non) (dp_pair hD2 (.str _) .non) (sh_n14 (by decide +kernel)) (sh_n14 (by decide +kernel)) ?_
      rw [eqv_self (sh_n14 (by decide +kernel))]
      exact ⟨_, rfl, if_cf rfl (b_nil (b_nil (h H2 ((xn.trans (.of e2))) (tb1.ext e2))))⟩
  · refine tref_out (tag := "ParseError") (v := .int i) k.ctP (by decide) (fun E' H0 Q' e0 ho X2 C2 tk2 => ?_) fun T2 H2 e2 hT2 => ?_
    · kpc_turns
      refine e_name (C2.nm (x := "_law_text") (i := 9) rfl (by decide +kernel)) rfl ?_
      refine e_name (C2.nm (x := "_law_tail") (i := 11) rfl (by decide +kernel)) rfl ?_
      refine o_addS (u := SX.S (textL ls)) (v := SX.S rest) (by rw [len_S, len_S]; omega) ?_
      rw [SX.S_cat]
      refine a_nil (fin_parse s hf hok hra hr10 hr40 (fun e => absurd e (by decide)) (fun _ => ho) fun e => absurd e (by decide))
    · kpc_turns
      have hD2 := e2 _ _ (xn _ _ hD (fun _ z => by cases z))
      refine o_neD C (dp_pair hT2 (.str _) (.int _)) (dp_pair hD2 (.str _) (.int _)) (sh_i14 (by decide +kernel) _) (sh_i14 (by decide +kernel) _) ?_
      rw [eqv_self (sh_i14 (by decide +kernel) _)]
      exact ⟨_, rfl, if_cf rfl (b_nil (b_nil (h H2 ((xn.trans (.of e2))) (tb1.ext e2))))⟩
  · refine tref_out (tag := "InvalidRule") (v := .int 0) k.ctR (by decide) (fun E' H0 Q' e0 ho X2 C2 tk2 => ?_) fun T2 H2 e2 hT2 => ?_
    · kpc_turns
      refine e_name (C2.nm (x := "_law_text") (i := 9) rfl (by decide +kernel)) rfl ?_
      refine e_name (C2.nm (x := "_law_tail") (i := 11) rfl (by decide +kernel)) rfl ?_
      refine o_addS (u := SX.S (textL ls)) (v := SX.S rest) (by rw [len_S, len_S]; omega) ?_
      rw [SX.S_cat]
      refine a_nil (fin_parse s hf hok hra hr10 hr40 (fun e => absurd e (by decide)) (fun e => absurd e (by decide)) fun _ _ => ho)
    · kpc_turns
      have hD2 := e2 _ _ (xn _ _ hD (fun _ z => by cases z))
      refine o_neD C (dp_pair hT2 (.str _) (.int _)) (dp_pair hD2 (.str _) (.int _)) (sh_i14 (by decide +kernel) _) (sh_i14 (by decide +kernel) _) ?_
      rw [eqv_self (sh_i14 (by decide +kernel) _)]
      exact ⟨_, rfl, if_cf rfl (b_nil (b_nil (h H2 ((xn.trans (.of e2))) (tb1.ext e2))))⟩
end

/-! k14: texts that are none, asked -/
def lnB (l : Ln) : Bool := l.all (· < 128) && !l.contains 10 && decide (l.length ≤ 40)
theorem lnB_ok {l : Ln} (h : lnB l = true) : As l ∧ l.length ≤ 10000 ∧ (10 : Nat) ∉ l := by
  unfold lnB at h
  simp only [Bool.and_eq_true, List.all_eq_true, decide_eq_true_eq, Bool.not_eq_true'] at h
  obtain ⟨⟨h1, h2⟩, h3⟩ := h
  refine ⟨⟨h1, by omega⟩, by omega, fun hm => ?_⟩
  have : l.contains 10 = true := List.contains_iff_mem.mpr hm
  rw [h2] at this
  cases this
def txtB (ls : List Ln) (rest : Ln) : Bool := ls.all lnB && lnB rest && decide (ls.length ≤ 40) && decide ((textL ls ++ rest).length ≤ 1000)
theorem txtB_ok {ls : List Ln} {rest : Ln} (h : txtB ls rest = true) : TxtO (textL ls ++ rest) ls rest := by
  unfold txtB at h
  simp only [Bool.and_eq_true, List.all_eq_true, decide_eq_true_eq] at h
  obtain ⟨⟨⟨h1, h2⟩, h3⟩, h4⟩ := h
  exact ⟨rfl, fun l hl => (lnB_ok (h1 l hl)).2.2, (lnB_ok h2).2.2, fun l hl => ⟨(lnB_ok (h1 l hl)).1, (lnB_ok (h1 l hl)).2.1⟩, (lnB_ok h2).1, by omega, by omega⟩
theorem rules_T {H : Hp} : ∀ {xs : List V} {us : List Rul}, Paired (Rt H) xs us → (∀ u ∈ us, u.needs.length ≤ 100000) → ∃ yss, Paired (RuleT H) xs yss
  | _, _, .nil, _ => ⟨[], .nil⟩
  | _, _, .cons (b := u) h t, hok => by
    obtain ⟨yss, q1⟩ := rules_T t fun v hv => hok v (List.mem_cons_of_mem _ hv)
    obtain ⟨N, q3, _⟩ := h.ruleT (hok u (List.mem_cons_self ..))
    exact ⟨_, .cons q3 q1⟩
def uA : Rul := ⟨97, [], 0, 1⟩
/-- the texts' lines, what is behind the last one -/
def txL : Nat → List Ln × Ln
  | 0 => ([], [])
  | 1 => ([[]], [])
  | 2 => ([tl "rooms 0", tl "a -> 0 1"], [])
  | 3 => ([tl "rooms 5", tl "a -> 0 1"], [])
  | 4 => ([tl "rooms 1"], [])
  | 5 => ([tl "rooms 2", tl "a -> 0 1"], [])
  | _ => ([], tl "rooms 1")
def txS : List Str := ["", "\n", "rooms 0\na -> 0 1\n", "rooms 5\na -> 0 1\n", "rooms 1\n", "rooms 2\na -> 0 1\n", "rooms 1"]
theorem tx_eq : ((List.range 7).all fun i => decide (tl (txS.getD i "") = textL (txL i).1 ++ (txL i).2) && txtB (txL i).1 (txL i).2) = true := by decide +kernel
theorem tx_at {i : Nat} (h : i < 7) : V.str (txS.getD i "") = wV (textL (txL i).1 ++ (txL i).2) ∧ txtB (txL i).1 (txL i).2 = true := by
  have := List.all_eq_true.mp tx_eq i (List.mem_range.mpr h)
  rw [Bool.and_eq_true, decide_eq_true_eq] at this
  exact ⟨congrArg V.str ((SX.S_tl _).symm.trans (congrArg SX.S this.1)), this.2⟩
def txR : Nat → Nat ⊕ (Nat × List Rul × List Mv)
  | 0 => .inl 0
  | 1 => .inl 0
  | 2 => .inr (0, [uA], [])
  | 3 => .inr (5, [uA], [])
  | 4 => .inr (1, [], [])
  | 5 => .inr (2, [uA], [])
  | _ => .inl 0
theorem tx_rd : ((List.range 7).all fun i => decide (rdAll (txL i).1 = txR i)) = true := by decide +kernel
theorem rd_at {i : Nat} (h : i < 7) : rdAll (txL i).1 = txR i := of_decide_eq_true (List.all_eq_true.mp tx_rd i (List.mem_range.mpr h))
/-- the error that the i-th text brings -/
def TxE (E : XK) (H : Hp) (CP CRo CL CU : Addr) : Nat → Prop
  | 0 => Out E H CP "ParseError" "line" (.int 0)
  | 1 => Out E H CP "ParseError" "line" (.int 0)
  | 2 => Out E H CRo "InvalidRooms" "given" (.int 0)
  | 3 => Out E H CRo "InvalidRooms" "given" (.int 5)
  | 4 => Out0 E H CL "NoLeaf"
  | 5 => Out E H CU "Unjoined" "room" (.int 0)
  | _ => Out E H CP "ParseError" "line" (.int 0)
theorem mvR_nil {r : Nat} (h : r ≤ 1) : MvR r [] := ⟨fun m hm => (by cases hm), .nil, fun h1 => absurd h1 (by omega)⟩
section
variable {K : PySem.W.Frag} {H : Hp} {Q : VK}
theorem tref_e14 {cl : Str → Addr} {CA : Addr} {q : Nat} {tag : Str} {TL : (XK → Hp → VK → Prop)} (ct : Caught K cl CA q none) (hb : ∀ E' H0 Q', Ex H H0 → Out0 E' H0 CA tag → TL E' H0 Q')
    (hq : ∀ T H2, Ex H H2 → H2 T = some (.tup [.str tag, .non]) → Q (.ref T) H2) : TRef K cl TL H Q := by
  intro T0 H0 nT e0 hT E' Q' hQ hE
  refine hb E' H0 Q' e0 fun d H' e1 hd => hE _ _ _ ⟨CA, d, fs0 tag, q, none, .str tag, .non, rfl, rfl, ct, hd, rfl, rfl, fun T H2 nT2 e2 hT2 => hq T H2 ((e0.trans e1).trans e2) hT2⟩
end
section
variable {P : Program} {w : World} {K : PySem.W.Frag} {mg : Str → Option Value} {base : Heap} {CC CL CU CRo CTm CR CM CP : Addr}
theorem tx_parse {i : Nat} (h7 : i < 7) {H0 : Hp} {Q : VK} {E' : XK} (he : TxE E' H0 CP CRo CL CU i) : spParse CP CC (spInit3 K CC CL CU CRo CTm CR CM) [V.str (txS.getD i "")] H0 Q E' := by
  obtain ⟨q1, q2⟩ := tx_at h7
  have q3 := rd_at h7
  rw [q1]
  refine ⟨_, (txL i).2, (txL i).1, rfl, txtB_ok q2, fun k hk => ?_, fun x hx hne => ?_, fun r us ms hx hrest rl ml rxs mxs H3 e3 hrl hru hml hmv b dx nb ndx dxb => ?_⟩
  · rw [q3] at hk
    match i, h7 with
    | 0, _ => cases hk; exact he
    | 1, _ => cases hk; exact he
    | 2, _ => cases hk
    | 3, _ => cases hk
    | 4, _ => cases hk
    | 5, _ => cases hk
    | 6, _ => cases hk; exact he
  · rw [q3] at hx
    match i, h7 with
    | 0, _ => cases hx
    | 1, _ => cases hx
    | 2, _ => exact absurd rfl hne
    | 3, _ => exact absurd rfl hne
    | 4, _ => exact absurd rfl hne
    | 5, _ => exact absurd rfl hne
    | 6, _ => cases hx
  · rw [q3] at hx
    have hl1 := paired_len hru
    have hl2 := paired_len hmv
    match i, h7 with
    | 0, _ => cases hx
    | 1, _ => cases hx
    | 2, _ =>
      cases hx
      obtain ⟨yss, hy⟩ := rules_T hru fun u hu => by rw [List.mem_singleton.mp hu]; decide
      exact .inl (.inr ⟨b, dx, rl, ml, ((0 : Nat) : Int), H3, rxs, mxs, yss, true, rfl, rfl, nb, ndx, dxb, SqL.of hrl, hy, by rw [hl1]; decide, SqL.of hml, by rw [hl2]; decide, fun _ d H' e' hd => he d H' (e3.trans e') hd, fun h1 => absurd h1 (by decide)⟩)
    | 3, _ =>
      cases hx
      obtain ⟨yss, hy⟩ := rules_T hru fun u hu => by rw [List.mem_singleton.mp hu]; decide
      exact .inl (.inr ⟨b, dx, rl, ml, ((5 : Nat) : Int), H3, rxs, mxs, yss, true, rfl, rfl, nb, ndx, dxb, SqL.of hrl, hy, by rw [hl1]; decide, SqL.of hml, by rw [hl2]; decide, fun _ d H' e' hd => he d H' (e3.trans e') hd, fun _ h1 => absurd h1 (by decide)⟩)
    | 4, _ =>
      cases hx
      have hm := mvR_nil (r := 1) (by decide)
      exact .inl (.inl ⟨b, dx, rl, ml, 1, H3, rxs, mxs, [], [], true, rfl, rfl, nb, ndx, dxb, by decide, by decide, SqL.of hrl, hru, by decide, fun u hu => (by cases hu), fun _ d H' e' hd => he d H' (e3.trans e') hd, SqL.of hml, hmv, hm.mvOk (by decide), hm.joined (by decide), fun H' ⟨u, hu, _⟩ => absurd hu (by simp)⟩)
    | 5, _ =>
      cases hx
      exact .inr ⟨b, dx, rl, ml, 2, H3, rxs, mxs, [uA], [], true, 1, rfl, rfl, nb, ndx, dxb, by decide, by decide, SqL.of hrl, hru, by decide, fun u hu => by
        rw [List.mem_singleton.mp hu]
        exact ⟨by decide +kernel, by decide +kernel, fun n hn => (by cases hn), by decide, by decide, by decide⟩, SqL.of hml, hmv, ⟨by decide, fun m hm => (by cases hm), .nil⟩, by decide, .inl (by decide +kernel), fun d H' e' hd => he d H' (e3.trans e') hd⟩
    | 6, _ => cases hx
end

/-! k14: texts that are none, and the law whole -/
def spLawT (K : PySem.W.Frag) (T : Addr) : Sp := fun vs H Q _ => ∃ (a : Addr) (ns : List Int), vs = [.ref a] ∧ SqL K H a (ns.map V.int) ∧ ns.length ≤ 1000 ∧ H T = some (.tbl #[]) ∧ ∀ H', Q (.bl true) H'
/-- what is told of them -/
def txG : Nat → List V
  | 0 => [.str "ParseError", .int 0]
  | 1 => [.str "ParseError", .int 0]
  | 2 => [.str "InvalidRooms", .int 0]
  | 3 => [.str "InvalidRooms", .int 5]
  | 4 => [.str "NoLeaf", .non]
  | 5 => [.str "Unjoined", .int 0]
  | _ => [.str "ParseError", .int 0]
section
variable {P : Program} {w : World} {K : PySem.W.Frag} {mg : Str → Option Value} {base : Heap}
variable {X : Cx} {H : Hp} {nx bk ct : St → Hp → Prop} {rt : VK} {a0 fa CC CL CU CRo CTm CR CM CP c T : Addr} {cl : Str → Addr} {o2 o3 o4 o5 o6 o7 o8 o9 o11 o12 o13 : Option V}
theorem law_f (C : Ctx X P w K mg base N_law (defScope s_law) 13) (hfn : ∀ y, X.fn y = true) (Lm : LamT X c T) (k : Kit14 P w K mg base CC CL CU CRo CTm CR CM CP cl) (tb : LamX.TabS H T (X.env.qual ++ "<lambda>")) (hq : ∀ H', rt (.bl true) H') :
    zB X ((defBody s_law).drop 2) nx rt bk ct [some (.ref a0), some (.ref fa), o2, o3, o4, o5, o6, o7, o8, o9, none, o11, o12, o13] H := by
  have n_script : Nm X "_law_script" 0 := C.nm rfl (by decide +kernel)
  have n_feed_here : Nm X "_law_feed_here" 1 := C.nm rfl (by decide +kernel)
  have n_turn : Nm X "_law_turn" 2 := C.nm rfl (by decide +kernel)
  have n_spec_here : Nm X "_law_spec_here" 3 := C.nm rfl (by decide +kernel)
  have n_lines_here : Nm X "_law_lines_here" 4 := C.nm rfl (by decide +kernel)
  have n_pick : Nm X "_law_pick" 5 := C.nm rfl (by decide +kernel)
  have n_at : Nm X "_law_at" 6 := C.nm rfl (by decide +kernel)
  have n_due : Nm X "_law_due" 7 := C.nm rfl (by decide +kernel)
  have n_odd : Nm X "_law_odd" 8 := C.nm rfl (by decide +kernel)
  have n_text : Nm X "_law_text" 9 := C.nm rfl (by decide +kernel)
  have n_tail : Nm X "_law_tail" 11 := C.nm rfl (by decide +kernel)
  have n_texts : Nm X "_law_texts" 12 := C.nm rfl (by decide +kernel)
  have n_dues : Nm X "_law_dues" 13 := C.nm rfl (by decide +kernel)
  have w_feed_here : Ns X "_law_feed_here" 1 := C.ns rfl (by decide +kernel) (.inl (hfn _))
  have w_turn : Ns X "_law_turn" 2 := C.ns rfl (by decide +kernel) (.inl (hfn _))
  have w_spec_here : Ns X "_law_spec_here" 3 := C.ns rfl (by decide +kernel) (.inl (hfn _))
  have w_lines_here : Ns X "_law_lines_here" 4 := C.ns rfl (by decide +kernel) (.inl (hfn _))
  have w_pick : Ns X "_law_pick" 5 := C.ns rfl (by decide +kernel) (.inl (hfn _))
  have w_at : Ns X "_law_at" 6 := C.ns rfl (by decide +kernel) (.inl (hfn _))
  have w_due : Ns X "_law_due" 7 := C.ns rfl (by decide +kernel) (.inl (hfn _))
  have w_odd : Ns X "_law_odd" 8 := C.ns rfl (by decide +kernel) (.inl (hfn _))
  have w_text : Ns X "_law_text" 9 := C.ns rfl (by decide +kernel) (.inl (hfn _))
  have w_tail : Ns X "_law_tail" 11 := C.ns rfl (by decide +kernel) (.inl (hfn _))
  have w_texts : Ns X "_law_texts" 12 := C.ns rfl (by decide +kernel) (.inl (hfn _))
  have w_dues : Ns X "_law_dues" 13 := C.ns rfl (by decide +kernel) (.inl (hfn _))
  have cP := k.cP
  refine b_cons ?_
  kpc_turns
  refine n_lst ?_
  kpc_turns
  refine ⟨by show 7 ≤ sizeLine; decide, fun p1 H1 n1 e1 hp1 => ?_⟩
  refine b_cons ?_
  kpc_turns
  refine n_lst ?_
  kpc_turns
  refine n_tup ?_
  kpc_turns
  refine ⟨by show 2 ≤ sizeLine; decide, fun t1 H2 n2 e2 ht1 => ?_⟩
  kpc_turns
  refine ⟨by show 1 ≤ sizeLine; decide, fun l1 H3 n3 e3 hl1 => ?_⟩
  kpc_turns
  refine o_rep hl1 ⟨by decide, by decide⟩ (by show 1 * 2 ≤ sizeLine; decide) fun l2 H4 n4 e4 hl2 => ?_
  have hl2 : H4 l2 = some (.lst [.ref t1, .ref t1]) := hl2
  kpc_turns
  refine n_lst ?_
  kpc_turns
  refine n_tup ?_
  kpc_turns
  refine ⟨by show 2 ≤ sizeLine; decide, fun t2 H5 n5 e5 ht2 => ?_⟩
  kpc_turns
  refine n_tup ?_
  kpc_turns
  refine ⟨by show 2 ≤ sizeLine; decide, fun t3 H6 n6 e6 ht3 => ?_⟩
  kpc_turns
  refine n_tup ?_
  kpc_turns
  refine ⟨by show 2 ≤ sizeLine; decide, fun t4 H7 n7 e7 ht4 => ?_⟩
  kpc_turns
  refine n_tup ?_
  kpc_turns
  refine ⟨by show 2 ≤ sizeLine; decide, fun t5 H8 n8 e8 ht5 => ?_⟩
  kpc_turns
  refine ⟨by show 4 ≤ sizeLine; decide, fun l3 H9 n9 e9 hl3 => ?_⟩
  refine o_addL ((e5.trans (e6.trans (e7.trans (e8.trans e9)))) _ _ hl2) hl3 (by show 2 + 4 ≤ sizeLine; decide) fun l4 H10 n10 e10 hl4 => ?_
  have hl4 : H10 l4 = some (.lst [.ref t1, .ref t1, .ref t2, .ref t3, .ref t4, .ref t5]) := hl4
  have e1_10 := e2.trans (e3.trans (e4.trans (e5.trans (e6.trans (e7.trans (e8.trans (e9.trans e10)))))))
  have hp10 := e1_10 _ _ hp1
  refine b_cons ?_
  kpc_turns
  refine e_lcL (own := [("_law_text", 9)]) (T := T) (q := X.env.qual ++ "<lambda>") (j := 9) C (by decide +kernel) rfl (by decide +kernel) (by decide +kernel) (fun _ => rfl) (i_list (e_name n_texts rfl ?_))
  have tb10 := tb.ext (e1.trans e1_10)
  have hp10 : H10 p1 = some (.lst (txS.map V.str)) := hp10
  refine ⟨p1, rfl, ⟨_, SqL.of hp10⟩, (txS.map V.str).length, _, _, txG, walk_list p1 (txS.map V.str), by show 7 ≤ 100000; decide, tb10, fun H' x => SqL.of (x _ _ hp10 fun _ z => by cases z), ?_, ?_⟩
  · rintro i v H' hi x' t' hv X1 C1 hc hql
    have hi : i < 7 := hi
    have hv : (txS.map V.str)[i]? = some v := hv
    have hvv : v = V.str (txS.getD i "") := by
      rw [List.getElem?_map] at hv
      obtain ⟨z, hz, rfl⟩ := Option.map_eq_some_iff.mp hv
      rw [List.getD_eq_getElem?_getD, hz]
      rfl
    subst hvv
    have tb1 : LamX.Tabs [(T, X1.env.qual ++ "<lambda>")] H' := by
      rw [hql]
      exact tabs_of t'
    refine e_lam C1 ⟨by rw [C1.bas, C1.mgl, ← C.bas, ← C.mgl]; exact Lm.tb, by rw [hc]; exact Lm.code⟩ k.gR (by decide) (by decide +kernel) tb1 fun H5' xn tb5 => ?_
    rw [hql] at tb5
    have tb5 := of_tabs tb5
    have done : ∀ T2 H2, Ex H5' H2 → H2 T2 = some (.tup (txG i)) → LamX.ExtN H' H2 ∧ LamX.TabS H2 T (X.env.qual ++ "<lambda>") ∧ ∃ A, V.ref T2 = .ref A ∧ H2 A = some (.tup (txG i)) := fun T2 H2 e2 h => ⟨xn.trans (.of e2), tb5.ext e2, T2, rfl, h⟩
    match i, hi with
    | 0, hi => 
      exact tref_out (tag := "ParseError") (v := .int 0) k.ctP (by decide) (fun E' H0 Q' e0 ho X2 C2 tk2 => by
        kpc_turns
        refine e_name (C2.nm (x := "_law_text") (i := 9) rfl (by decide +kernel)) rfl ?_
        exact a_nil (tx_parse hi ho)) done
    | 1, hi => 
      exact tref_out (tag := "ParseError") (v := .int 0) k.ctP (by decide) (fun E' H0 Q' e0 ho X2 C2 tk2 => by
        kpc_turns
        refine e_name (C2.nm (x := "_law_text") (i := 9) rfl (by decide +kernel)) rfl ?_
        exact a_nil (tx_parse hi ho)) done
    | 2, hi => 
      exact tref_out (tag := "InvalidRooms") (v := .int 0) k.ctRo (by decide) (fun E' H0 Q' e0 ho X2 C2 tk2 => by
        kpc_turns
        refine e_name (C2.nm (x := "_law_text") (i := 9) rfl (by decide +kernel)) rfl ?_
        exact a_nil (tx_parse hi ho)) done
    | 3, hi => 
      exact tref_out (tag := "InvalidRooms") (v := .int 5) k.ctRo (by decide) (fun E' H0 Q' e0 ho X2 C2 tk2 => by
        kpc_turns
        refine e_name (C2.nm (x := "_law_text") (i := 9) rfl (by decide +kernel)) rfl ?_
        exact a_nil (tx_parse hi ho)) done
    | 4, hi => 
      exact tref_e14 (tag := "NoLeaf") k.ctL (fun E' H0 Q' e0 ho X2 C2 tk2 => by
        kpc_turns
        refine e_name (C2.nm (x := "_law_text") (i := 9) rfl (by decide +kernel)) rfl ?_
        exact a_nil (tx_parse hi ho)) done
    | 5, hi => 
      exact tref_out (tag := "Unjoined") (v := .int 0) k.ctU (by decide) (fun E' H0 Q' e0 ho X2 C2 tk2 => by
        kpc_turns
        refine e_name (C2.nm (x := "_law_text") (i := 9) rfl (by decide +kernel)) rfl ?_
        exact a_nil (tx_parse hi ho)) done
    | 6, hi => 
      exact tref_out (tag := "ParseError") (v := .int 0) k.ctP (by decide) (fun E' H0 Q' e0 ho X2 C2 tk2 => by
        kpc_turns
        refine e_name (C2.nm (x := "_law_text") (i := 9) rfl (by decide +kernel)) rfl ?_
        exact a_nil (tx_parse hi ho)) done
  · intro D ys H' nD x' t' hD hl hy
    kpc_turns
    refine n_lst ?_
    kpc_turns
    refine n_tup ?_
    kpc_turns
    refine ⟨by show 2 ≤ sizeLine; decide, fun t6 H11 n11 e11 ht6 => ?_⟩
    kpc_turns
    refine ⟨by show 1 ≤ sizeLine; decide, fun l5 H12 n12 e12 hl5 => ?_⟩
    have e1112 := e11.trans e12
    refine o_addL (e1112 _ _ (x' _ _ hl4 fun _ z => by cases z)) hl5 (by show 6 + 1 ≤ sizeLine; decide) fun l6 H13 n13 e13 hl6 => ?_
    have hl6 : H13 l6 = some (.lst [.ref t1, .ref t1, .ref t2, .ref t3, .ref t4, .ref t5, .ref t6]) := hl6
    have up : ∀ A xs, H10 A = some (.tup xs) → H13 A = some (.tup xs) := fun A xs h => e13 _ _ (e1112 _ _ (x' _ _ h fun _ z => by cases z))
    have e4_10 := e5.trans (e6.trans (e7.trans (e8.trans (e9.trans e10))))
    have g1 := up _ _ ((e3.trans (e4.trans e4_10)) _ _ ht1)
    have g2 := up _ _ ((e6.trans (e7.trans (e8.trans (e9.trans e10)))) _ _ ht2)
    have g3 := up _ _ ((e7.trans (e8.trans (e9.trans e10))) _ _ ht3)
    have g4 := up _ _ ((e8.trans (e9.trans e10)) _ _ ht4)
    have g5 := up _ _ ((e9.trans e10) _ _ ht5)
    have g6 := e13 _ _ (e12 _ _ ht6)
    have e1013 := e1112.trans e13
    have sh : SeqAt.shaped (.list [.tuple [.str "ParseError", .int 0], .tuple [.str "ParseError", .int 0], .tuple [.str "InvalidRooms", .int 0], .tuple [.str "InvalidRooms", .int 5], .tuple [.str "NoLeaf", .none], .tuple [.str "Unjoined", .int 0], .tuple [.str "ParseError", .int 0]]) = true := by decide +kernel
    have dL : DpAll X.K H13 ys [.tuple [.str "ParseError", .int 0], .tuple [.str "ParseError", .int 0], .tuple [.str "InvalidRooms", .int 0], .tuple [.str "InvalidRooms", .int 5], .tuple [.str "NoLeaf", .none], .tuple [.str "Unjoined", .int 0], .tuple [.str "ParseError", .int 0]] := dp_told (g := txG) 7 hl (fun t ht => by
      obtain ⟨A, q1, q2⟩ := hy t ht
      exact ⟨A, q1, e1013 _ _ q2⟩) rfl fun t ht => by
        match t, ht with
        | 0, _ => exact ⟨_, rfl, .cons (.str _) (.cons (.int _) .nil)⟩
        | 1, _ => exact ⟨_, rfl, .cons (.str _) (.cons (.int _) .nil)⟩
        | 2, _ => exact ⟨_, rfl, .cons (.str _) (.cons (.int _) .nil)⟩
        | 3, _ => exact ⟨_, rfl, .cons (.str _) (.cons (.int _) .nil)⟩
        | 4, _ => exact ⟨_, rfl, .cons (.str _) (.cons .non .nil)⟩
        | 5, _ => exact ⟨_, rfl, .cons (.str _) (.cons (.int _) .nil)⟩
        | 6, _ => exact ⟨_, rfl, .cons (.str _) (.cons (.int _) .nil)⟩
    have si : ∀ {A : Addr} {t : Str} {i : Int}, H13 A = some (.tup [.str t, .int i]) → Dp X.K H13 (.ref A) (.tuple [.str t, .int i]) := fun h => .tup (SqT.of h) (.cons (.str _) (.cons (.int _) .nil))
    have sn : ∀ {A : Addr} {t : Str}, H13 A = some (.tup [.str t, .non]) → Dp X.K H13 (.ref A) (.tuple [.str t, .none]) := fun h => .tup (SqT.of h) (.cons (.str _) (.cons .non .nil))
    refine o_eqD C (.lst (SqL.of (e1013 _ _ hD)) dL) (.lst (SqL.of hl6) (.cons (si g1) (.cons (si g1) (.cons (si g2) (.cons (si g3) (.cons (sn g4) (.cons (si g5) (.cons (si g6) .nil)))))))) sh sh ?_
    rw [eqv_self sh]
    exact hq H13
theorem ok_law {f : Addr} {fd : FuncData} (F : FnP K "law" s_law f fd) (hcode : fd.code = .ref c) (tbl : LamX.TabB base mg c T) (mR : mg "range" = none) (mL : mg "len" = none)
    (cFe : Cal P w K mg base CX0 "_law_feed" 1 1 (spFeed K)) (cD : Cal P w K mg base CX0 "_law_draw" 1 2 spDraw) (cA : Cal P w K mg base CX0 "_law_any" 2 2 (spAny K)) (cLe : Cal P w K mg base CX0 "_law_letters" 3 1 spLetters)
    (cSp : Cal P w K mg base CX0 "_law_spec" 3 4 spSpec) (cLi : Cal P w K mg base CX0 "_law_lines" 2 1 spLLines) (cOd : Cal P w K mg base CX0 "_law_odd_line" 3 1 spOddLine) (k : Kit14 P w K mg base CC CL CU CRo CTm CR CM CP cl) : FnOk P w K mg base CX0 14 f fd P_law (spLawT K T) := by
  refine fn_okC F sc_law (fun vs H Q E ⟨c, _, h, _⟩ => by rw [h]; rfl) fun X vs H Q E C hfn hcd hql ⟨a0, ns, hv, hs, hn, hT0, hq⟩ => ?_
  subst hv
  have L : LamT X c T := ⟨by rw [C.bas, C.mgl]; exact tbl, by rw [hcd, hcode]⟩
  have tb0 : LamX.TabS H T (X.env.qual ++ "<lambda>") := LamX.TabS.nil hT0
  have n_script : Nm X "_law_script" 0 := C.nm rfl (by decide +kernel)
  have n_feed_here : Nm X "_law_feed_here" 1 := C.nm rfl (by decide +kernel)
  have n_turn : Nm X "_law_turn" 2 := C.nm rfl (by decide +kernel)
  have n_spec_here : Nm X "_law_spec_here" 3 := C.nm rfl (by decide +kernel)
  have n_lines_here : Nm X "_law_lines_here" 4 := C.nm rfl (by decide +kernel)
  have n_pick : Nm X "_law_pick" 5 := C.nm rfl (by decide +kernel)
  have n_at : Nm X "_law_at" 6 := C.nm rfl (by decide +kernel)
  have n_due : Nm X "_law_due" 7 := C.nm rfl (by decide +kernel)
  have n_odd : Nm X "_law_odd" 8 := C.nm rfl (by decide +kernel)
  have n_text : Nm X "_law_text" 9 := C.nm rfl (by decide +kernel)
  have n_tail : Nm X "_law_tail" 11 := C.nm rfl (by decide +kernel)
  have n_texts : Nm X "_law_texts" 12 := C.nm rfl (by decide +kernel)
  have n_dues : Nm X "_law_dues" 13 := C.nm rfl (by decide +kernel)
  have w_feed_here : Ns X "_law_feed_here" 1 := C.ns rfl (by decide +kernel) (.inl (hfn _))
  have w_turn : Ns X "_law_turn" 2 := C.ns rfl (by decide +kernel) (.inl (hfn _))
  have w_spec_here : Ns X "_law_spec_here" 3 := C.ns rfl (by decide +kernel) (.inl (hfn _))
  have w_lines_here : Ns X "_law_lines_here" 4 := C.ns rfl (by decide +kernel) (.inl (hfn _))
  have w_pick : Ns X "_law_pick" 5 := C.ns rfl (by decide +kernel) (.inl (hfn _))
  have w_at : Ns X "_law_at" 6 := C.ns rfl (by decide +kernel) (.inl (hfn _))
  have w_due : Ns X "_law_due" 7 := C.ns rfl (by decide +kernel) (.inl (hfn _))
  have w_odd : Ns X "_law_odd" 8 := C.ns rfl (by decide +kernel) (.inl (hfn _))
  have w_text : Ns X "_law_text" 9 := C.ns rfl (by decide +kernel) (.inl (hfn _))
  have w_tail : Ns X "_law_tail" 11 := C.ns rfl (by decide +kernel) (.inl (hfn _))
  have w_texts : Ns X "_law_texts" 12 := C.ns rfl (by decide +kernel) (.inl (hfn _))
  have w_dues : Ns X "_law_dues" 13 := C.ns rfl (by decide +kernel) (.inl (hfn _))
  refine b_cons ?_
  kpc_turns
  refine ⟨a0, ns, rfl, hs, hn, fun fa H1 hF e1 => ?_⟩
  have tb1 := tb0.ext e1
  kpc_turns
  refine s_for C (i_range1 (C.gl (by decide +kernel)) (by rw [C.mgl]; exact mR) ?_)
  kpc_turns
  refine ⟨by omega, by omega, _, _, _, fun i σ H' => ∃ o2 o3 o4 o5 o6 o7 o8 o9 o11 o12 o13, σ = [some (.ref a0), some (.ref fa), o2, o3, o4, o5, o6, o7, o8, o9, none, o11, o12, o13] ∧ Feed H' fa ∧ LamX.TabS H' T (X.env.qual ++ "<lambda>"), walk_range 0 _, ⟨_, _, _, _, _, _, _, _, _, _, _, rfl, hF, tb1⟩, fun _ _ _ _ _ => trivial, ?_, ?_⟩
  · rintro i x σ H2 H3 hi ⟨o2, o3, o4, o5, o6, o7, o8, o9, o11, o12, o13, rfl, hF2, tb2⟩ e3 rfl
    have hF3 := hF2.mono e3
    have tb3 := tb2.ext e3
    refine g_name w_turn ?_
    refine law_a C hfn mL cD cLe cSp cLi hF3 fun r us ms p3 Ln0 D d n H4 s e4 hL0 hL hD hd0 hd6 hn => ?_
    have next : ∀ L' D' o8' ls tg fl H', Ex H3 H' → H' L' = some (.lst (lnsV ls)) → H' D' = some (.tup [.str tg, fl]) → End14 r us ms ls tg fl → LsOk ls →
      zB X (LB.drop 8) (fun σ H' => ∃ o2 o3 o4 o5 o6 o7 o8 o9 o11 o12 o13, σ = [some (.ref a0), some (.ref fa), o2, o3, o4, o5, o6, o7, o8, o9, none, o11, o12, o13] ∧ Feed H' fa ∧ LamX.TabS H' T (X.env.qual ++ "<lambda>")) Q (fun _ _ => False) (fun σ H' => ∃ o2 o3 o4 o5 o6 o7 o8 o9 o11 o12 o13, σ = [some (.ref a0), some (.ref fa), o2, o3, o4, o5, o6, o7, o8, o9, none, o11, o12, o13] ∧ Feed H' fa ∧ LamX.TabS H' T (X.env.qual ++ "<lambda>"))
        [some (.ref a0), some (.ref fa), some (.int (0 + (i : Int))), some (.ref p3), some (.ref L'), some (.int d), some (.int (n : Nat)), some (.ref D'), o8', o9, none, o11, o12, o13] H' := fun L' D' o8' ls tg fl H5 e5 hL5 hD5 hend hok => by
      refine law_c C hfn mL cA s (hF3.mono e5) hL5 hD5 hend hok fun D6 rest tg' fl' H6 e6 hD6 hfin hra hr10 hr40 => ?_
      refine law_e C hfn L k (tabs_of (tb3.ext (e5.trans e6))) s (e6 _ _ hL5) hD6 hfin hok hra hr10 hr40 fun H7 x7 tb7 => ?_
      exact ⟨_, _, _, _, _, _, _, _, _, _, _, rfl, (hF3.mono (e5.trans e6)).extN x7, of_tabs tb7⟩
    obtain (h | h | h | h | h | h) : d = 0 ∨ d = 1 ∨ d = 2 ∨ d = 3 ∨ d = 4 ∨ d = 5 := by omega
    · subst h; exact law_b0 C hfn mL cOd cA s hF3 e4 hL0 hL hD hn next
    · subst h; exact law_b1 C hfn mL cOd cA s hF3 e4 hL0 hL hD hn next
    · subst h; exact law_b2 C hfn mL cOd cA s hF3 e4 hL0 hL hD hn next
    · subst h; exact law_b3 C hfn mL cOd cA s hF3 e4 hL0 hL hD hn next
    · subst h; exact law_b4 C hfn mL cOd cA s hF3 e4 hL0 hL hD hn next
    · subst h; exact law_b5 C hfn mL cOd cA s hF3 e4 hL0 hL hD hn next
  · rintro σ H2 ⟨o2, o3, o4, o5, o6, o7, o8, o9, o11, o12, o13, rfl, hF2, tb2⟩
    exact law_f C hfn L k tb2 hq
end

/-! one def, two promises -/
section
variable {P : Program} {w : World} {K : PySem.W.Frag} {mg : Str → Option Value} {base : Heap}
theorem fnok_or2 {CX : CXT} {j : Nat} {f : Addr} {fd : FuncData} {ps : List Str} {s1 s2 : Sp} (F : FnOk P w K mg base CX j f fd ps s1) (G : FnOk P w K mg base CX j f fd ps s2) : FnOk P w K mg base CX j f fd ps (fun vs H Q E => s1 vs H Q E ∨ s2 vs H Q E) :=
  ⟨fun vs H Q E h => h.elim (F.len vs H Q E) (G.len vs H Q E), fun A outer s H args us vs Q E hr e0 hb r hsp => hsp.elim (F.run A outer s H args us vs Q E hr e0 hb r) (G.run A outer s H args us vs Q E hr e0 hb r)⟩
end

/-! errors of a chooser, made -/
abbrev e_InvalidRule : Stmt := inClass (topS 7) 0
theorem ok_InvalidRule {P : Program} {w : World} {K : PySem.W.Frag} {mg : Str → Option Value} {base : Heap} {CA f cc cda : Addr} {fd : FuncData} (T : ExI P K CA f cc cda "__init__" "InvalidRule.__init__" (defArgs e_InvalidRule) (defBody e_InvalidRule) (defScope e_InvalidRule) fd) (mS : mg "super" = none)
    (n1 : PySem.W.findIn K (.ref CA) "index" = some none) (n2 : PySem.W.findIn K (.ref CA) "tag" = some none) : FnOk P w K mg base CX0 1 f fd ["self", "index"] (spExc CA "InvalidRule" "index") := by
  refine init_ok (N := ["self", "index", "__class__"]) (k := 0) (txt := "a tuple is not a rule") T (NdefX.nscope_by (by decide +kernel)) mS (by rfl) (fun _ => rfl) (by decide +kernel) (by rfl) (by rfl) (fun vs H Q E ⟨a, y, h, _⟩ => by rw [h]; rfl) (fun vs H Q E ⟨a, y, h, ha, _⟩ => ⟨a, [y], h, ha⟩) ?_
  rintro X vs H Q E C ⟨a, y, rfl, ha, hq⟩
  have m1 : Nm X "self" 0 := C.nm rfl (by decide +kernel)
  have m2 : Nm X "index" 1 := C.nm rfl (by decide +kernel)
  exact exc_body (by rw [C.frg]; exact T.ox) m1 m2 (by rw [C.frg]; exact n1) (by rw [C.frg]; exact n2) ha rfl rfl hq

abbrev e_InvalidMove : Stmt := inClass (topS 8) 0
theorem ok_InvalidMove {P : Program} {w : World} {K : PySem.W.Frag} {mg : Str → Option Value} {base : Heap} {CA f cc cda : Addr} {fd : FuncData} (T : ExI P K CA f cc cda "__init__" "InvalidMove.__init__" (defArgs e_InvalidMove) (defBody e_InvalidMove) (defScope e_InvalidMove) fd) (mS : mg "super" = none)
    (n1 : PySem.W.findIn K (.ref CA) "index" = some none) (n2 : PySem.W.findIn K (.ref CA) "tag" = some none) : FnOk P w K mg base CX0 1 f fd ["self", "index"] (spExc CA "InvalidMove" "index") := by
  refine init_ok (N := ["self", "index", "__class__"]) (k := 0) (txt := "a tuple is not a move, or is a duplicate") T (NdefX.nscope_by (by decide +kernel)) mS (by rfl) (fun _ => rfl) (by decide +kernel) (by rfl) (by rfl) (fun vs H Q E ⟨a, y, h, _⟩ => by rw [h]; rfl) (fun vs H Q E ⟨a, y, h, ha, _⟩ => ⟨a, [y], h, ha⟩) ?_
  rintro X vs H Q E C ⟨a, y, rfl, ha, hq⟩
  have m1 : Nm X "self" 0 := C.nm rfl (by decide +kernel)
  have m2 : Nm X "index" 1 := C.nm rfl (by decide +kernel)
  exact exc_body (by rw [C.frg]; exact T.ox) m1 m2 (by rw [C.frg]; exact n1) (by rw [C.frg]; exact n2) ha rfl rfl hq

abbrev e_Unjoined : Stmt := inClass (topS 9) 0
theorem ok_Unjoined {P : Program} {w : World} {K : PySem.W.Frag} {mg : Str → Option Value} {base : Heap} {CA f cc cda : Addr} {fd : FuncData} (T : ExI P K CA f cc cda "__init__" "Unjoined.__init__" (defArgs e_Unjoined) (defBody e_Unjoined) (defScope e_Unjoined) fd) (mS : mg "super" = none)
    (n1 : PySem.W.findIn K (.ref CA) "room" = some none) (n2 : PySem.W.findIn K (.ref CA) "tag" = some none) : FnOk P w K mg base CX0 1 f fd ["self", "room"] (spExc CA "Unjoined" "room") := by
  refine init_ok (N := ["self", "room", "__class__"]) (k := 0) (txt := "a room is not joined with all others") T (NdefX.nscope_by (by decide +kernel)) mS (by rfl) (fun _ => rfl) (by decide +kernel) (by rfl) (by rfl) (fun vs H Q E ⟨a, y, h, _⟩ => by rw [h]; rfl) (fun vs H Q E ⟨a, y, h, ha, _⟩ => ⟨a, [y], h, ha⟩) ?_
  rintro X vs H Q E C ⟨a, y, rfl, ha, hq⟩
  have m1 : Nm X "self" 0 := C.nm rfl (by decide +kernel)
  have m2 : Nm X "room" 1 := C.nm rfl (by decide +kernel)
  exact exc_body (by rw [C.frg]; exact T.ox) m1 m2 (by rw [C.frg]; exact n1) (by rw [C.frg]; exact n2) ha rfl rfl hq


/-! rooms that there are not: the error, made -/
abbrev e_InvalidRooms : Stmt := inClass (topS 6) 0
theorem ok_InvalidRooms {P : Program} {w : World} {K : PySem.W.Frag} {mg : Str → Option Value} {base : Heap} {CA f cc cda : Addr} {fd : FuncData} (T : ExI P K CA f cc cda "__init__" "InvalidRooms.__init__" (defArgs e_InvalidRooms) (defBody e_InvalidRooms) (defScope e_InvalidRooms) fd) (mS : mg "super" = none)
    (n1 : PySem.W.findIn K (.ref CA) "given" = some none) (n2 : PySem.W.findIn K (.ref CA) "tag" = some none) : FnOk P w K mg base CX0 1 f fd ["self", "given"] (spExc CA "InvalidRooms" "given") := by
  refine init_ok (N := ["self", "given", "__class__"]) (k := 0) (txt := "the number of rooms is not from 1 to 4") T (NdefX.nscope_by (by decide +kernel)) mS (by rfl) (fun _ => rfl) (by decide +kernel) (by rfl) (by rfl) (fun vs H Q E ⟨a, y, h, _⟩ => by rw [h]; rfl) (fun vs H Q E ⟨a, y, h, ha, _⟩ => ⟨a, [y], h, ha⟩) ?_
  rintro X vs H Q E C ⟨a, y, rfl, ha, hq⟩
  have m1 : Nm X "self" 0 := C.nm rfl (by decide +kernel)
  have m2 : Nm X "given" 1 := C.nm rfl (by decide +kernel)
  exact exc_body (by rw [C.frg]; exact T.ox) m1 m2 (by rw [C.frg]; exact n1) (by rw [C.frg]; exact n2) ha rfl rfl hq


/-! too many: the error, made -/
abbrev e_TooMany : Stmt := inClass (topS 11) 0
theorem ok_TooMany {P : Program} {w : World} {K : PySem.W.Frag} {mg : Str → Option Value} {base : Heap} {CA f cc cda : Addr} {fd : FuncData} (T : ExI P K CA f cc cda "__init__" "TooMany.__init__" (defArgs e_TooMany) (defBody e_TooMany) (defScope e_TooMany) fd) (mS : mg "super" = none)
    (n1 : PySem.W.findIn K (.ref CA) "limit" = some none) (n2 : PySem.W.findIn K (.ref CA) "tag" = some none) : FnOk P w K mg base CX0 1 f fd ["self", "limit"] (spExc CA "TooMany" "limit") := by
  refine init_ok (N := ["self", "limit", "__class__"]) (k := 0) (txt := "there are more items than the limit") T (NdefX.nscope_by (by decide +kernel)) mS (by rfl) (fun _ => rfl) (by decide +kernel) (by rfl) (by rfl) (fun vs H Q E ⟨a, y, h, _⟩ => by rw [h]; rfl) (fun vs H Q E ⟨a, y, h, ha, _⟩ => ⟨a, [y], h, ha⟩) ?_
  rintro X vs H Q E C ⟨a, y, rfl, ha, hq⟩
  have m1 : Nm X "self" 0 := C.nm rfl (by decide +kernel)
  have m2 : Nm X "limit" 1 := C.nm rfl (by decide +kernel)
  exact exc_body (by rw [C.frg]; exact T.ox) m1 m2 (by rw [C.frg]; exact n1) (by rw [C.frg]; exact n2) ha rfl rfl hq


/-! a line that is none: the error, made -/
abbrev e_ParseError : Stmt := inClass (topS 26) 0
theorem ok_ParseError {P : Program} {w : World} {K : PySem.W.Frag} {mg : Str → Option Value} {base : Heap} {CA f cc cda : Addr} {fd : FuncData} (T : ExI P K CA f cc cda "__init__" "ParseError.__init__" (defArgs e_ParseError) (defBody e_ParseError) (defScope e_ParseError) fd) (mS : mg "super" = none)
    (n1 : PySem.W.findIn K (.ref CA) "line" = some none) (n2 : PySem.W.findIn K (.ref CA) "tag" = some none) : FnOk P w K mg base CX0 1 f fd ["self", "line"] (spExc CA "ParseError" "line") := by
  refine init_ok (N := ["self", "line", "__class__"]) (k := 0) (txt := "a line does not have the right form") T (NdefX.nscope_by (by decide +kernel)) mS (by rfl) (fun _ => rfl) (by decide +kernel) (by rfl) (by rfl) (fun vs H Q E ⟨a, y, h, _⟩ => by rw [h]; rfl) (fun vs H Q E ⟨a, y, h, ha, _⟩ => ⟨a, [y], h, ha⟩) ?_
  rintro X vs H Q E C ⟨a, y, rfl, ha, hq⟩
  have m1 : Nm X "self" 0 := C.nm rfl (by decide +kernel)
  have m2 : Nm X "line" 1 := C.nm rfl (by decide +kernel)
  exact exc_body (by rw [C.frg]; exact T.ox) m1 m2 (by rw [C.frg]; exact n1) (by rw [C.frg]; exact n2) ha rfl rfl hq


theorem hd_facts {w : World} {K : PySem.W.Frag} {h : Heap} {mg : Str → Option Value} {fa : Addr} (KX : K.In h) (G : h.Ns mainGlobals mg) (hfa : mg ("law" : Str) = some (.ref fa)) (c : SaysY hdA hdF hdT hdE hdI h K) :
    LamX.LawAtS PySem.Challenge.rw_boughtoll_k14_texts_refused w K CX0 14 63 "_law_script" mg fa h := by
  obtain ⟨fd_arity, F_arity⟩ := c.d.def_ 0 (d := dOf "arity" s_arity) rfl
  have F_arity : FnP K "arity" s_arity (He.ga K "arity") fd_arity := F_arity
  have gm_arity : mg "arity" = some (.ref (He.ga K "arity")) := He.glo_ok KX G (c.d.fact 0 (f := .glo "arity") rfl)
  obtain ⟨fd_is_whole, F_is_whole⟩ := c.d.def_ 1 (d := dOf "is_whole" s_is_whole) rfl
  have F_is_whole : FnP K "is_whole" s_is_whole (He.ga K "is_whole") fd_is_whole := F_is_whole
  have gm_is_whole : mg "is_whole" = some (.ref (He.ga K "is_whole")) := He.glo_ok KX G (c.d.fact 1 (f := .glo "is_whole") rfl)
  obtain ⟨fd_is_room, F_is_room⟩ := c.d.def_ 2 (d := dOf "is_room" s_is_room) rfl
  have F_is_room : FnP K "is_room" s_is_room (He.ga K "is_room") fd_is_room := F_is_room
  have gm_is_room : mg "is_room" = some (.ref (He.ga K "is_room")) := He.glo_ok KX G (c.d.fact 2 (f := .glo "is_room") rfl)
  obtain ⟨fd_is_letter, F_is_letter⟩ := c.d.def_ 3 (d := dOf "is_letter" s_is_letter) rfl
  have F_is_letter : FnP K "is_letter" s_is_letter (He.ga K "is_letter") fd_is_letter := F_is_letter
  have gm_is_letter : mg "is_letter" = some (.ref (He.ga K "is_letter")) := He.glo_ok KX G (c.d.fact 3 (f := .glo "is_letter") rfl)
  obtain ⟨fd_is_rule, F_is_rule⟩ := c.d.def_ 4 (d := dOf "is_rule" s_is_rule) rfl
  have F_is_rule : FnP K "is_rule" s_is_rule (He.ga K "is_rule") fd_is_rule := F_is_rule
  have gm_is_rule : mg "is_rule" = some (.ref (He.ga K "is_rule")) := He.glo_ok KX G (c.d.fact 4 (f := .glo "is_rule") rfl)
  obtain ⟨fd_is_move, F_is_move⟩ := c.d.def_ 5 (d := dOf "is_move" s_is_move) rfl
  have F_is_move : FnP K "is_move" s_is_move (He.ga K "is_move") fd_is_move := F_is_move
  have gm_is_move : mg "is_move" = some (.ref (He.ga K "is_move")) := He.glo_ok KX G (c.d.fact 5 (f := .glo "is_move") rfl)
  obtain ⟨fd_first_ways, F_first_ways⟩ := c.d.def_ 6 (d := dOf "first_ways" s_first_ways) rfl
  have F_first_ways : FnP K "first_ways" s_first_ways (He.ga K "first_ways") fd_first_ways := F_first_ways
  have gm_first_ways : mg "first_ways" = some (.ref (He.ga K "first_ways")) := He.glo_ok KX G (c.d.fact 6 (f := .glo "first_ways") rfl)
  obtain ⟨fd_check_rules, F_check_rules⟩ := c.d.def_ 7 (d := dOf "check_rules" s_check_rules) rfl
  have F_check_rules : FnP K "check_rules" s_check_rules (He.ga K "check_rules") fd_check_rules := F_check_rules
  have gm_check_rules : mg "check_rules" = some (.ref (He.ga K "check_rules")) := He.glo_ok KX G (c.d.fact 7 (f := .glo "check_rules") rfl)
  obtain ⟨fd_check_moves, F_check_moves⟩ := c.d.def_ 8 (d := dOf "check_moves" s_check_moves) rfl
  have F_check_moves : FnP K "check_moves" s_check_moves (He.ga K "check_moves") fd_check_moves := F_check_moves
  have gm_check_moves : mg "check_moves" = some (.ref (He.ga K "check_moves")) := He.glo_ok KX G (c.d.fact 8 (f := .glo "check_moves") rfl)
  obtain ⟨fd_check_joined, F_check_joined⟩ := c.d.def_ 9 (d := dOf "check_joined" s_check_joined) rfl
  have F_check_joined : FnP K "check_joined" s_check_joined (He.ga K "check_joined") fd_check_joined := F_check_joined
  have gm_check_joined : mg "check_joined" = some (.ref (He.ga K "check_joined")) := He.glo_ok KX G (c.d.fact 9 (f := .glo "check_joined") rfl)
  obtain ⟨fd_number_in, F_number_in⟩ := c.d.def_ 10 (d := dOf "number_in" s_number_in) rfl
  have F_number_in : FnP K "number_in" s_number_in (He.ga K "number_in") fd_number_in := F_number_in
  have gm_number_in : mg "number_in" = some (.ref (He.ga K "number_in")) := He.glo_ok KX G (c.d.fact 10 (f := .glo "number_in") rfl)
  obtain ⟨fd_numbers_in, F_numbers_in⟩ := c.d.def_ 11 (d := dOf "numbers_in" s_numbers_in) rfl
  have F_numbers_in : FnP K "numbers_in" s_numbers_in (He.ga K "numbers_in") fd_numbers_in := F_numbers_in
  have gm_numbers_in : mg "numbers_in" = some (.ref (He.ga K "numbers_in")) := He.glo_ok KX G (c.d.fact 11 (f := .glo "numbers_in") rfl)
  obtain ⟨fd_read_rooms, F_read_rooms⟩ := c.d.def_ 12 (d := dOf "read_rooms" s_read_rooms) rfl
  have F_read_rooms : FnP K "read_rooms" s_read_rooms (He.ga K "read_rooms") fd_read_rooms := F_read_rooms
  have gm_read_rooms : mg "read_rooms" = some (.ref (He.ga K "read_rooms")) := He.glo_ok KX G (c.d.fact 12 (f := .glo "read_rooms") rfl)
  obtain ⟨fd_read_rule, F_read_rule⟩ := c.d.def_ 13 (d := dOf "read_rule" s_read_rule) rfl
  have F_read_rule : FnP K "read_rule" s_read_rule (He.ga K "read_rule") fd_read_rule := F_read_rule
  have gm_read_rule : mg "read_rule" = some (.ref (He.ga K "read_rule")) := He.glo_ok KX G (c.d.fact 13 (f := .glo "read_rule") rfl)
  obtain ⟨fd_read_move, F_read_move⟩ := c.d.def_ 14 (d := dOf "read_move" s_read_move) rfl
  have F_read_move : FnP K "read_move" s_read_move (He.ga K "read_move") fd_read_move := F_read_move
  have gm_read_move : mg "read_move" = some (.ref (He.ga K "read_move")) := He.glo_ok KX G (c.d.fact 14 (f := .glo "read_move") rfl)
  obtain ⟨fd_law_feed, F_law_feed⟩ := c.d.def_ 15 (d := dOf "_law_feed" s_law_feed) rfl
  have F_law_feed : FnP K "_law_feed" s_law_feed (He.ga K "_law_feed") fd_law_feed := F_law_feed
  have gm_law_feed : mg "_law_feed" = some (.ref (He.ga K "_law_feed")) := He.glo_ok KX G (c.d.fact 15 (f := .glo "_law_feed") rfl)
  obtain ⟨fd_law_draw, F_law_draw⟩ := c.d.def_ 16 (d := dOf "_law_draw" s_law_draw) rfl
  have F_law_draw : FnP K "_law_draw" s_law_draw (He.ga K "_law_draw") fd_law_draw := F_law_draw
  have gm_law_draw : mg "_law_draw" = some (.ref (He.ga K "_law_draw")) := He.glo_ok KX G (c.d.fact 16 (f := .glo "_law_draw") rfl)
  obtain ⟨fd_law_any, F_law_any⟩ := c.d.def_ 17 (d := dOf "_law_any" s_law_any) rfl
  have F_law_any : FnP K "_law_any" s_law_any (He.ga K "_law_any") fd_law_any := F_law_any
  have gm_law_any : mg "_law_any" = some (.ref (He.ga K "_law_any")) := He.glo_ok KX G (c.d.fact 17 (f := .glo "_law_any") rfl)
  obtain ⟨fd_law_arity, F_law_arity⟩ := c.d.def_ 18 (d := dOf "_law_arity" s_law_arity) rfl
  have F_law_arity : FnP K "_law_arity" s_law_arity (He.ga K "_law_arity") fd_law_arity := F_law_arity
  have gm_law_arity : mg "_law_arity" = some (.ref (He.ga K "_law_arity")) := He.glo_ok KX G (c.d.fact 18 (f := .glo "_law_arity") rfl)
  obtain ⟨fd_law_letters, F_law_letters⟩ := c.d.def_ 19 (d := dOf "_law_letters" s_law_letters) rfl
  have F_law_letters : FnP K "_law_letters" s_law_letters (He.ga K "_law_letters") fd_law_letters := F_law_letters
  have gm_law_letters : mg "_law_letters" = some (.ref (He.ga K "_law_letters")) := He.glo_ok KX G (c.d.fact 19 (f := .glo "_law_letters") rfl)
  obtain ⟨fd_law_rule, F_law_rule⟩ := c.d.def_ 20 (d := dOf "_law_rule" s_law_rule) rfl
  have F_law_rule : FnP K "_law_rule" s_law_rule (He.ga K "_law_rule") fd_law_rule := F_law_rule
  have gm_law_rule : mg "_law_rule" = some (.ref (He.ga K "_law_rule")) := He.glo_ok KX G (c.d.fact 20 (f := .glo "_law_rule") rfl)
  obtain ⟨fd_law_spec, F_law_spec⟩ := c.d.def_ 21 (d := dOf "_law_spec" s_law_spec) rfl
  have F_law_spec : FnP K "_law_spec" s_law_spec (He.ga K "_law_spec") fd_law_spec := F_law_spec
  have gm_law_spec : mg "_law_spec" = some (.ref (He.ga K "_law_spec")) := He.glo_ok KX G (c.d.fact 21 (f := .glo "_law_spec") rfl)
  obtain ⟨fd_law_line, F_law_line⟩ := c.d.def_ 22 (d := dOf "_law_line" s_law_line) rfl
  have F_law_line : FnP K "_law_line" s_law_line (He.ga K "_law_line") fd_law_line := F_law_line
  have gm_law_line : mg "_law_line" = some (.ref (He.ga K "_law_line")) := He.glo_ok KX G (c.d.fact 22 (f := .glo "_law_line") rfl)
  obtain ⟨fd_law_lines, F_law_lines⟩ := c.d.def_ 23 (d := dOf "_law_lines" s_law_lines) rfl
  have F_law_lines : FnP K "_law_lines" s_law_lines (He.ga K "_law_lines") fd_law_lines := F_law_lines
  have gm_law_lines : mg "_law_lines" = some (.ref (He.ga K "_law_lines")) := He.glo_ok KX G (c.d.fact 23 (f := .glo "_law_lines") rfl)
  obtain ⟨fd_law_odd_line, F_law_odd_line⟩ := c.d.def_ 24 (d := dOf "_law_odd_line" s_law_odd_line) rfl
  have F_law_odd_line : FnP K "_law_odd_line" s_law_odd_line (He.ga K "_law_odd_line") fd_law_odd_line := F_law_odd_line
  have gm_law_odd_line : mg "_law_odd_line" = some (.ref (He.ga K "_law_odd_line")) := He.glo_ok KX G (c.d.fact 24 (f := .glo "_law_odd_line") rfl)
  obtain ⟨fd_read_lines, F_read_lines⟩ := c.d.def_ 25 (d := dOf "read_lines" s_read_lines) rfl
  have F_read_lines : FnP K "read_lines" s_read_lines (He.ga K "read_lines") fd_read_lines := F_read_lines
  have gm_read_lines : mg "read_lines" = some (.ref (He.ga K "read_lines")) := He.glo_ok KX G (c.d.fact 25 (f := .glo "read_lines") rfl)
  obtain ⟨fd_parse_chooser, F_parse_chooser⟩ := c.d.def_ 26 (d := dOf "parse_chooser" s_parse_chooser) rfl
  have F_parse_chooser : FnP K "parse_chooser" s_parse_chooser (He.ga K "parse_chooser") fd_parse_chooser := F_parse_chooser
  have gm_parse_chooser : mg "parse_chooser" = some (.ref (He.ga K "parse_chooser")) := He.glo_ok KX G (c.d.fact 26 (f := .glo "parse_chooser") rfl)
  obtain ⟨fd_law_refused, F_law_refused⟩ := c.d.def_ 27 (d := dOf "_law_refused" s_law_refused) rfl
  have F_law_refused : FnP K "_law_refused" s_law_refused (He.ga K "_law_refused") fd_law_refused := F_law_refused
  have gm_law_refused : mg "_law_refused" = some (.ref (He.ga K "_law_refused")) := He.glo_ok KX G (c.d.fact 27 (f := .glo "_law_refused") rfl)
  obtain ⟨fd_law, F_law⟩ := c.d.def_ 28 (d := dOf "law" s_law) rfl
  have F_law : FnP K "law" s_law (He.ga K "law") fd_law := F_law
  have gm_law : mg "law" = some (.ref (He.ga K "law")) := He.glo_ok KX G (c.d.fact 28 (f := .glo "law") rfl)
  obtain ⟨fd_Chooser___init__, F_Chooser___init__⟩ := c.d.def_ 29 (d := mOf "Chooser" "__init__" "Chooser.__init__" (inClass (topS 63) 3) [("moves", .adr (kwA ("Chooser", some "__init__") "moves"))]) rfl
  have fa_0 := c.d.fact 73 (f := .glo "Chooser") rfl
  have fa_1 := c.d.fact 74 (f := .cls "Chooser") rfl
  have fa_2 := c.d.fact 75 (f := .mkr "Chooser") rfl
  have fa_3 := c.d.fact 76 (f := .noat "Chooser" "ways") rfl
  have fa_4 := c.d.fact 77 (f := .noat "Chooser" "many_rooms") rfl
  have fa_5 := c.d.fact 78 (f := .noat "Chooser" "rule_row") rfl
  have fa_6 := c.d.fact 79 (f := .noat "Chooser" "move_row") rfl
  have fa_7 := c.d.fact 80 (f := .noat "Chooser" "letter_row") rfl
  have m_len : mg "len" = none := He.free_ok KX G (c.d.fact 29 (f := .free "len") rfl)
  have m_int : mg "int" = none := He.free_ok KX G (c.d.fact 30 (f := .free "int") rfl)
  have m_range : mg "range" = none := He.free_ok KX G (c.d.fact 31 (f := .free "range") rfl)
  have m_enumerate : mg "enumerate" = none := He.free_ok KX G (c.d.fact 32 (f := .free "enumerate") rfl)
  have m_sorted : mg "sorted" = none := He.free_ok KX G (c.d.fact 33 (f := .free "sorted") rfl)
  have m_isinstance : mg "isinstance" = none := He.free_ok KX G (c.d.fact 34 (f := .free "isinstance") rfl)
  have m_bool : mg "bool" = none := He.free_ok KX G (c.d.fact 35 (f := .free "bool") rfl)
  have m_str : mg "str" = none := He.free_ok KX G (c.d.fact 36 (f := .free "str") rfl)
  have m_list : mg "list" = none := He.free_ok KX G (c.d.fact 37 (f := .free "list") rfl)
  have m_tuple : mg "tuple" = none := He.free_ok KX G (c.d.fact 38 (f := .free "tuple") rfl)
  have m_all : mg "all" = none := He.free_ok KX G (c.d.fact 39 (f := .free "all") rfl)
  have m_zip : mg "zip" = none := He.free_ok KX G (c.d.fact 40 (f := .free "zip") rfl)
  have m_super : mg "super" = none := He.free_ok KX G (c.d.fact 41 (f := .free "super") rfl)
  have m_set : mg "set" = none := He.free_ok KX G (c.d.fact 42 (f := .free "set") rfl)
  have g_LEAVES : Gs mg "LEAVES" "abcdefgh" := He.str_ok KX G (c.d.fact 43 (f := .str "LEAVES" "abcdefgh") rfl)
  have g_SINGLES : Gs mg "SINGLES" "ijklmnop" := He.str_ok KX G (c.d.fact 44 (f := .str "SINGLES" "ijklmnop") rfl)
  have g_LETTERS : Gs mg "LETTERS" "abcdefghijklmnopqrstuvwxyz" := He.str_ok KX G (c.d.fact 45 (f := .str "LETTERS" "abcdefghijklmnopqrstuvwxyz") rfl)
  have g_MOST_PRICE : Gi mg "MOST_PRICE" 99 := He.int_ok KX G (c.d.fact 46 (f := .int "MOST_PRICE" 99) rfl)
  have g_MOST_DIGITS : Gi mg "MOST_DIGITS" 3 := He.int_ok KX G (c.d.fact 47 (f := .int "MOST_DIGITS" 3) rfl)
  have hE : ∀ (i : Nat) (b : PySem.W.Frag → Bool), hdX[i]? = some b → b K = true := fun i b hb => List.all_eq_true.mp c.more b (List.mem_of_getElem? hb)
  have ge_InvalidTree : mg "InvalidTree" = some (.ref (He.ga K "InvalidTree")) := He.glo_ok KX G (c.d.fact 48 (f := .glo "InvalidTree") rfl)
  have ge_InvalidRule : mg "InvalidRule" = some (.ref (He.ga K "InvalidRule")) := He.glo_ok KX G (c.d.fact 49 (f := .glo "InvalidRule") rfl)
  have ge_InvalidMove : mg "InvalidMove" = some (.ref (He.ga K "InvalidMove")) := He.glo_ok KX G (c.d.fact 50 (f := .glo "InvalidMove") rfl)
  have ge_UnknownLetter : mg "UnknownLetter" = some (.ref (He.ga K "UnknownLetter")) := He.glo_ok KX G (c.d.fact 51 (f := .glo "UnknownLetter") rfl)
  have ge_InvalidRow : mg "InvalidRow" = some (.ref (He.ga K "InvalidRow")) := He.glo_ok KX G (c.d.fact 52 (f := .glo "InvalidRow") rfl)
  have ge_InvalidRooms : mg "InvalidRooms" = some (.ref (He.ga K "InvalidRooms")) := He.glo_ok KX G (c.d.fact 53 (f := .glo "InvalidRooms") rfl)
  have ge_InvalidNumber : mg "InvalidNumber" = some (.ref (He.ga K "InvalidNumber")) := He.glo_ok KX G (c.d.fact 54 (f := .glo "InvalidNumber") rfl)
  have ge_TooMany : mg "TooMany" = some (.ref (He.ga K "TooMany")) := He.glo_ok KX G (c.d.fact 55 (f := .glo "TooMany") rfl)
  have ge_TooWide : mg "TooWide" = some (.ref (He.ga K "TooWide")) := He.glo_ok KX G (c.d.fact 56 (f := .glo "TooWide") rfl)
  have ge_TooLong : mg "TooLong" = some (.ref (He.ga K "TooLong")) := He.glo_ok KX G (c.d.fact 57 (f := .glo "TooLong") rfl)
  have ge_CapacityExceeded : mg "CapacityExceeded" = some (.ref (He.ga K "CapacityExceeded")) := He.glo_ok KX G (c.d.fact 58 (f := .glo "CapacityExceeded") rfl)
  have ge_InvalidName : mg "InvalidName" = some (.ref (He.ga K "InvalidName")) := He.glo_ok KX G (c.d.fact 59 (f := .glo "InvalidName") rfl)
  have ge_DuplicateName : mg "DuplicateName" = some (.ref (He.ga K "DuplicateName")) := He.glo_ok KX G (c.d.fact 60 (f := .glo "DuplicateName") rfl)
  have ge_WrongKind : mg "WrongKind" = some (.ref (He.ga K "WrongKind")) := He.glo_ok KX G (c.d.fact 61 (f := .glo "WrongKind") rfl)
  have ge_InUse : mg "InUse" = some (.ref (He.ga K "InUse")) := He.glo_ok KX G (c.d.fact 62 (f := .glo "InUse") rfl)
  have ge_UnknownName : mg "UnknownName" = some (.ref (He.ga K "UnknownName")) := He.glo_ok KX G (c.d.fact 63 (f := .glo "UnknownName") rfl)
  have ge_InvalidContext : mg "InvalidContext" = some (.ref (He.ga K "InvalidContext")) := He.glo_ok KX G (c.d.fact 64 (f := .glo "InvalidContext") rfl)
  have ge_NoLeaf : mg "NoLeaf" = some (.ref (He.ga K "NoLeaf")) := He.glo_ok KX G (c.d.fact 65 (f := .glo "NoLeaf") rfl)
  have ge_NothingLeft : mg "NothingLeft" = some (.ref (He.ga K "NothingLeft")) := He.glo_ok KX G (c.d.fact 66 (f := .glo "NothingLeft") rfl)
  have ge_Unjoined : mg "Unjoined" = some (.ref (He.ga K "Unjoined")) := He.glo_ok KX G (c.d.fact 67 (f := .glo "Unjoined") rfl)
  have ge_UnlikeLetters : mg "UnlikeLetters" = some (.ref (He.ga K "UnlikeLetters")) := He.glo_ok KX G (c.d.fact 68 (f := .glo "UnlikeLetters") rfl)
  have ge_Unlike : mg "Unlike" = some (.ref (He.ga K "Unlike")) := He.glo_ok KX G (c.d.fact 69 (f := .glo "Unlike") rfl)
  have ge_Boundless : mg "Boundless" = some (.ref (He.ga K "Boundless")) := He.glo_ok KX G (c.d.fact 70 (f := .glo "Boundless") rfl)
  have ge_InvalidCommand : mg "InvalidCommand" = some (.ref (He.ga K "InvalidCommand")) := He.glo_ok KX G (c.d.fact 71 (f := .glo "InvalidCommand") rfl)
  have ge_ParseError : mg "ParseError" = some (.ref (He.ga K "ParseError")) := He.glo_ok KX G (c.d.fact 72 (f := .glo "ParseError") rfl)
  have gE : ∀ x ∈ errNames, mg x = some (.ref (He.ga K x)) := fun x hx => by
    simp only [errNames, List.mem_cons, List.not_mem_nil, or_false] at hx
    rcases hx with rfl | rfl | rfl | rfl | rfl | rfl | rfl | rfl | rfl | rfl | rfl | rfl | rfl | rfl | rfl | rfl | rfl | rfl | rfl | rfl | rfl | rfl | rfl | rfl | rfl
    · exact ge_InvalidTree
    · exact ge_InvalidRule
    · exact ge_InvalidMove
    · exact ge_UnknownLetter
    · exact ge_InvalidRow
    · exact ge_InvalidRooms
    · exact ge_InvalidNumber
    · exact ge_TooMany
    · exact ge_TooWide
    · exact ge_TooLong
    · exact ge_CapacityExceeded
    · exact ge_InvalidName
    · exact ge_DuplicateName
    · exact ge_WrongKind
    · exact ge_InUse
    · exact ge_UnknownName
    · exact ge_InvalidContext
    · exact ge_NoLeaf
    · exact ge_NothingLeft
    · exact ge_Unjoined
    · exact ge_UnlikeLetters
    · exact ge_Unlike
    · exact ge_Boundless
    · exact ge_InvalidCommand
    · exact ge_ParseError
  obtain ⟨cc_InvalidRule, cda_InvalidRule, fdi_InvalidRule, T_InvalidRule, dn_InvalidRule, fi_InvalidRule, ti_InvalidRule⟩ := exiB_ok (P := PySem.Challenge.pw_boughtoll_k14_texts_refused) (c.ini (.ini "InvalidRule" e_InvalidRule) (List.mem_of_getElem? (i := 0) rfl)) (hE 0 _ rfl) (by kernel_rfl)
  have n1_InvalidRule : PySem.W.findIn K (.ref (cA K "InvalidRule")) "index" = some none := nfB_ok (hE 1 _ rfl) (by decide)
  have n2_InvalidRule : PySem.W.findIn K (.ref (cA K "InvalidRule")) "tag" = some none := nfB_ok (hE 1 _ rfl) (by decide)
  have ct_InvalidRule : Caught K (He.ga K) (cA K "InvalidRule") 0 (some "index") := ⟨L2.xfB_ok (hE 2 _ rfl), n2_InvalidRule, fun y hy => by cases hy; exact n1_InvalidRule, ⟨_, rfl, rfl, anyB_ok (hE 3 _ rfl)⟩, fun i q hi hq => by
    omega⟩
  obtain ⟨cc_InvalidMove, cda_InvalidMove, fdi_InvalidMove, T_InvalidMove, dn_InvalidMove, fi_InvalidMove, ti_InvalidMove⟩ := exiB_ok (P := PySem.Challenge.pw_boughtoll_k14_texts_refused) (c.ini (.ini "InvalidMove" e_InvalidMove) (List.mem_of_getElem? (i := 1) rfl)) (hE 4 _ rfl) (by kernel_rfl)
  have n1_InvalidMove : PySem.W.findIn K (.ref (cA K "InvalidMove")) "index" = some none := nfB_ok (hE 5 _ rfl) (by decide)
  have n2_InvalidMove : PySem.W.findIn K (.ref (cA K "InvalidMove")) "tag" = some none := nfB_ok (hE 5 _ rfl) (by decide)
  have ct_InvalidMove : Caught K (He.ga K) (cA K "InvalidMove") 0 (some "index") := ⟨L2.xfB_ok (hE 6 _ rfl), n2_InvalidMove, fun y hy => by cases hy; exact n1_InvalidMove, ⟨_, rfl, rfl, anyB_ok (hE 7 _ rfl)⟩, fun i q hi hq => by
    omega⟩
  obtain ⟨cc_Unjoined, cda_Unjoined, fdi_Unjoined, T_Unjoined, dn_Unjoined, fi_Unjoined, ti_Unjoined⟩ := exiB_ok (P := PySem.Challenge.pw_boughtoll_k14_texts_refused) (c.ini (.ini "Unjoined" e_Unjoined) (List.mem_of_getElem? (i := 2) rfl)) (hE 8 _ rfl) (by kernel_rfl)
  have n1_Unjoined : PySem.W.findIn K (.ref (cA K "Unjoined")) "room" = some none := nfB_ok (hE 9 _ rfl) (by decide)
  have n2_Unjoined : PySem.W.findIn K (.ref (cA K "Unjoined")) "tag" = some none := nfB_ok (hE 9 _ rfl) (by decide)
  have ct_Unjoined : Caught K (He.ga K) (cA K "Unjoined") 5 (some "room") := ⟨L2.xfB_ok (hE 10 _ rfl), n2_Unjoined, fun y hy => by cases hy; exact n1_Unjoined, ⟨_, rfl, rfl, anyB_ok (hE 16 _ rfl)⟩, fun i q hi hq => by
    rcases (show i = 0 ∨ i = 1 ∨ i = 2 ∨ i = 3 ∨ i = 4 by omega) with rfl | rfl | rfl | rfl | rfl
    · cases hq; exact anyB_ok (hE 11 _ rfl)
    · cases hq; exact anyB_ok (hE 12 _ rfl)
    · cases hq; exact anyB_ok (hE 13 _ rfl)
    · cases hq; exact anyB_ok (hE 14 _ rfl)
    · cases hq; exact anyB_ok (hE 15 _ rfl)⟩
  obtain ⟨cc_NoLeaf, cda_NoLeaf, fdi_NoLeaf, T_NoLeaf, dn_NoLeaf, fi_NoLeaf, ti_NoLeaf⟩ := exiB_ok (P := PySem.Challenge.pw_boughtoll_k14_texts_refused) (c.ini (.ini "NoLeaf" e_NoLeaf) (List.mem_of_getElem? (i := 3) rfl)) (hE 17 _ rfl) (by kernel_rfl)
  have n2_NoLeaf : PySem.W.findIn K (.ref (cA K "NoLeaf")) "tag" = some none := nfB_ok (hE 18 _ rfl) (by decide)
  have ct_NoLeaf : Caught K (He.ga K) (cA K "NoLeaf") 4 none := ⟨L2.xfB_ok (hE 19 _ rfl), n2_NoLeaf, fun y hy => (by cases hy), ⟨_, rfl, rfl, anyB_ok (hE 24 _ rfl)⟩, fun i q hi hq => by
    rcases (show i = 0 ∨ i = 1 ∨ i = 2 ∨ i = 3 by omega) with rfl | rfl | rfl | rfl
    · cases hq; exact anyB_ok (hE 20 _ rfl)
    · cases hq; exact anyB_ok (hE 21 _ rfl)
    · cases hq; exact anyB_ok (hE 22 _ rfl)
    · cases hq; exact anyB_ok (hE 23 _ rfl)⟩
  obtain ⟨cc_InvalidRooms, cda_InvalidRooms, fdi_InvalidRooms, T_InvalidRooms, dn_InvalidRooms, fi_InvalidRooms, ti_InvalidRooms⟩ := exiB_ok (P := PySem.Challenge.pw_boughtoll_k14_texts_refused) (c.ini (.ini "InvalidRooms" e_InvalidRooms) (List.mem_of_getElem? (i := 4) rfl)) (hE 25 _ rfl) (by kernel_rfl)
  have n1_InvalidRooms : PySem.W.findIn K (.ref (cA K "InvalidRooms")) "given" = some none := nfB_ok (hE 26 _ rfl) (by decide)
  have n2_InvalidRooms : PySem.W.findIn K (.ref (cA K "InvalidRooms")) "tag" = some none := nfB_ok (hE 26 _ rfl) (by decide)
  have ct_InvalidRooms : Caught K (He.ga K) (cA K "InvalidRooms") 1 (some "given") := ⟨L2.xfB_ok (hE 27 _ rfl), n2_InvalidRooms, fun y hy => by cases hy; exact n1_InvalidRooms, ⟨_, rfl, rfl, anyB_ok (hE 29 _ rfl)⟩, fun i q hi hq => by
    rcases (show i = 0 by omega) with rfl
    · cases hq; exact anyB_ok (hE 28 _ rfl)⟩
  obtain ⟨cc_TooMany, cda_TooMany, fdi_TooMany, T_TooMany, dn_TooMany, fi_TooMany, ti_TooMany⟩ := exiB_ok (P := PySem.Challenge.pw_boughtoll_k14_texts_refused) (c.ini (.ini "TooMany" e_TooMany) (List.mem_of_getElem? (i := 5) rfl)) (hE 30 _ rfl) (by kernel_rfl)
  have n1_TooMany : PySem.W.findIn K (.ref (cA K "TooMany")) "limit" = some none := nfB_ok (hE 31 _ rfl) (by decide)
  have n2_TooMany : PySem.W.findIn K (.ref (cA K "TooMany")) "tag" = some none := nfB_ok (hE 31 _ rfl) (by decide)
  have ct_TooMany : Caught K (He.ga K) (cA K "TooMany") 2 (some "limit") := ⟨L2.xfB_ok (hE 32 _ rfl), n2_TooMany, fun y hy => by cases hy; exact n1_TooMany, ⟨_, rfl, rfl, anyB_ok (hE 35 _ rfl)⟩, fun i q hi hq => by
    rcases (show i = 0 ∨ i = 1 by omega) with rfl | rfl
    · cases hq; exact anyB_ok (hE 33 _ rfl)
    · cases hq; exact anyB_ok (hE 34 _ rfl)⟩
  obtain ⟨cc_ParseError, cda_ParseError, fdi_ParseError, T_ParseError, dn_ParseError, fi_ParseError, ti_ParseError⟩ := exiB_ok (P := PySem.Challenge.pw_boughtoll_k14_texts_refused) (c.ini (.ini "ParseError" e_ParseError) (List.mem_of_getElem? (i := 6) rfl)) (hE 36 _ rfl) (by kernel_rfl)
  have n1_ParseError : PySem.W.findIn K (.ref (cA K "ParseError")) "line" = some none := nfB_ok (hE 37 _ rfl) (by decide)
  have n2_ParseError : PySem.W.findIn K (.ref (cA K "ParseError")) "tag" = some none := nfB_ok (hE 37 _ rfl) (by decide)
  have ct_ParseError : Caught K (He.ga K) (cA K "ParseError") 10 (some "line") := ⟨L2.xfB_ok (hE 38 _ rfl), n2_ParseError, fun y hy => by cases hy; exact n1_ParseError, ⟨_, rfl, rfl, anyB_ok (hE 49 _ rfl)⟩, fun i q hi hq => by
    rcases (show i = 0 ∨ i = 1 ∨ i = 2 ∨ i = 3 ∨ i = 4 ∨ i = 5 ∨ i = 6 ∨ i = 7 ∨ i = 8 ∨ i = 9 by omega) with rfl | rfl | rfl | rfl | rfl | rfl | rfl | rfl | rfl | rfl
    · cases hq; exact anyB_ok (hE 39 _ rfl)
    · cases hq; exact anyB_ok (hE 40 _ rfl)
    · cases hq; exact anyB_ok (hE 41 _ rfl)
    · cases hq; exact anyB_ok (hE 42 _ rfl)
    · cases hq; exact anyB_ok (hE 43 _ rfl)
    · cases hq; exact anyB_ok (hE 44 _ rfl)
    · cases hq; exact anyB_ok (hE 45 _ rfl)
    · cases hq; exact anyB_ok (hE 46 _ rfl)
    · cases hq; exact anyB_ok (hE 47 _ rfl)
    · cases hq; exact anyB_ok (hE 48 _ rfl)⟩
  refine ⟨fd_law, hdT.map (He.cT K), spLawT K (He.cT K ("law", none)).2, fun p hp => ?_, fun p hp => ?_, fun p hp => ?_, fun s v => ?_, fun H a ns hl _ hH hS => ⟨a, ns, rfl, hS, by omega, hH _ (List.mem_singleton.mpr rfl), fun _ => rfl⟩, fun base KB GB ht => ?_⟩
  · obtain ⟨q, hq, rfl⟩ := List.mem_map.mp hp
    exact c.empty q hq
  · obtain ⟨q, hq, rfl⟩ := List.mem_map.mp hp
    exact c.out q hq
  · obtain ⟨q, hq, rfl⟩ := List.mem_map.mp hp
    exact PySem.W.codeHd_of_K KX (c.hd q hq)
  · exact FunD.bindsA (ps := ["_law_script"]) F_law (fun _ _ _ _ _ _ us hl => match us, hl with | [_], _ => rfl) s [v] rfl
  · have e0 := hfa.symm.trans gm_law
    cases e0
    have hcode : fd_law.code = .ref (He.cT K ("law", none)).1 := by
      obtain ⟨oc, od, dV, kV, doc, pm, an, cdv, ct, osl, rfl, lk, hcd, _, _⟩ := F_law.ex
      obtain ⟨cq, rfl⟩ := He.codeIn_ref hcd
      exact congrArg Value.ref (He.codeOf_eq (K := K) (p := ("law", none)) lk rfl).symm
    have x_InvalidRule : ExK PySem.Challenge.pw_boughtoll_k14_texts_refused w K mg base "InvalidRule" (cA K "InvalidRule") (fs1 "InvalidRule" "index") := ⟨T_InvalidRule.ox, ge_InvalidRule, _, fdi_InvalidRule, ["self", "index"], fi_InvalidRule, ti_InvalidRule, .all (fun us hl => by
      obtain ⟨dV, kV, doc, pm, an, ct, rfl⟩ := T_InvalidRule.fdE
      have hd : dV = .none := dn_InvalidRule
      subst hd
      match us, hl with | [_, _], _ => rfl), ok_InvalidRule T_InvalidRule m_super n1_InvalidRule n2_InvalidRule⟩
    have x_InvalidMove : ExK PySem.Challenge.pw_boughtoll_k14_texts_refused w K mg base "InvalidMove" (cA K "InvalidMove") (fs1 "InvalidMove" "index") := ⟨T_InvalidMove.ox, ge_InvalidMove, _, fdi_InvalidMove, ["self", "index"], fi_InvalidMove, ti_InvalidMove, .all (fun us hl => by
      obtain ⟨dV, kV, doc, pm, an, ct, rfl⟩ := T_InvalidMove.fdE
      have hd : dV = .none := dn_InvalidMove
      subst hd
      match us, hl with | [_, _], _ => rfl), ok_InvalidMove T_InvalidMove m_super n1_InvalidMove n2_InvalidMove⟩
    have x_Unjoined : ExK PySem.Challenge.pw_boughtoll_k14_texts_refused w K mg base "Unjoined" (cA K "Unjoined") (fs1 "Unjoined" "room") := ⟨T_Unjoined.ox, ge_Unjoined, _, fdi_Unjoined, ["self", "room"], fi_Unjoined, ti_Unjoined, .all (fun us hl => by
      obtain ⟨dV, kV, doc, pm, an, ct, rfl⟩ := T_Unjoined.fdE
      have hd : dV = .none := dn_Unjoined
      subst hd
      match us, hl with | [_, _], _ => rfl), ok_Unjoined T_Unjoined m_super n1_Unjoined n2_Unjoined⟩
    have x_NoLeaf : ExK0 PySem.Challenge.pw_boughtoll_k14_texts_refused w K mg base "NoLeaf" (cA K "NoLeaf") (fs0 "NoLeaf") := ⟨T_NoLeaf.ox, ge_NoLeaf, _, fdi_NoLeaf, ["self"], fi_NoLeaf, ti_NoLeaf, .all (fun us hl => by
      obtain ⟨dV, kV, doc, pm, an, ct, rfl⟩ := T_NoLeaf.fdE
      have hd : dV = .none := dn_NoLeaf
      subst hd
      match us, hl with | [_], _ => rfl), ok_NoLeaf T_NoLeaf m_super n2_NoLeaf⟩
    have x_InvalidRooms : ExK PySem.Challenge.pw_boughtoll_k14_texts_refused w K mg base "InvalidRooms" (cA K "InvalidRooms") (fs1 "InvalidRooms" "given") := ⟨T_InvalidRooms.ox, ge_InvalidRooms, _, fdi_InvalidRooms, ["self", "given"], fi_InvalidRooms, ti_InvalidRooms, .all (fun us hl => by
      obtain ⟨dV, kV, doc, pm, an, ct, rfl⟩ := T_InvalidRooms.fdE
      have hd : dV = .none := dn_InvalidRooms
      subst hd
      match us, hl with | [_, _], _ => rfl), ok_InvalidRooms T_InvalidRooms m_super n1_InvalidRooms n2_InvalidRooms⟩
    have x_TooMany : ExK PySem.Challenge.pw_boughtoll_k14_texts_refused w K mg base "TooMany" (cA K "TooMany") (fs1 "TooMany" "limit") := ⟨T_TooMany.ox, ge_TooMany, _, fdi_TooMany, ["self", "limit"], fi_TooMany, ti_TooMany, .all (fun us hl => by
      obtain ⟨dV, kV, doc, pm, an, ct, rfl⟩ := T_TooMany.fdE
      have hd : dV = .none := dn_TooMany
      subst hd
      match us, hl with | [_, _], _ => rfl), ok_TooMany T_TooMany m_super n1_TooMany n2_TooMany⟩
    have x_ParseError : ExK PySem.Challenge.pw_boughtoll_k14_texts_refused w K mg base "ParseError" (cA K "ParseError") (fs1 "ParseError" "line") := ⟨T_ParseError.ox, ge_ParseError, _, fdi_ParseError, ["self", "line"], fi_ParseError, ti_ParseError, .all (fun us hl => by
      obtain ⟨dV, kV, doc, pm, an, ct, rfl⟩ := T_ParseError.fdE
      have hd : dV = .none := dn_ParseError
      subst hd
      match us, hl with | [_, _], _ => rfl), ok_ParseError T_ParseError m_super n1_ParseError n2_ParseError⟩
    have c_arity := cal_of (P := PySem.Challenge.pw_boughtoll_k14_texts_refused) (w := w) (base := base) (x := "arity") (st := s_arity) F_arity (ok_arity F_arity g_LEAVES g_SINGLES) gm_arity fun _ _ _ _ _ _ us hl => match us, hl with | [_], _ => rfl
    have c_is_whole := cal_of (P := PySem.Challenge.pw_boughtoll_k14_texts_refused) (w := w) (base := base) (x := "is_whole") (st := s_is_whole) F_is_whole (ok_is_whole F_is_whole m_isinstance m_int m_bool) gm_is_whole fun _ _ _ _ _ _ us hl => match us, hl with | [_], _ => rfl
    have c_is_room := cal_of (P := PySem.Challenge.pw_boughtoll_k14_texts_refused) (w := w) (base := base) (x := "is_room") (st := s_is_room) F_is_room (ok_is_room F_is_room c_is_whole) gm_is_room fun _ _ _ _ _ _ us hl => match us, hl with | [_, _], _ => rfl
    have c_is_letter := cal_of (P := PySem.Challenge.pw_boughtoll_k14_texts_refused) (w := w) (base := base) (x := "is_letter") (st := s_is_letter) F_is_letter (ok_is_letter F_is_letter m_isinstance m_str m_len g_LETTERS) gm_is_letter fun _ _ _ _ _ _ us hl => match us, hl with | [_], _ => rfl
    have c_is_rule := cal_of (P := PySem.Challenge.pw_boughtoll_k14_texts_refused) (w := w) (base := base) (x := "is_rule") (st := s_is_rule) F_is_rule (ok_is_rule F_is_rule m_isinstance m_tuple m_len m_all g_MOST_PRICE c_is_letter c_is_whole c_is_room c_arity) gm_is_rule fun _ _ _ _ _ _ us hl => match us, hl with | [_, _], _ => rfl
    have c_is_move := cal_of (P := PySem.Challenge.pw_boughtoll_k14_texts_refused) (w := w) (base := base) (x := "is_move") (st := s_is_move) F_is_move (ok_is_move F_is_move m_len g_MOST_PRICE c_is_whole c_is_room) gm_is_move fun _ _ _ _ _ _ us hl => match us, hl with | [_, _], _ => rfl
    have c_first_ways := cal_of (P := PySem.Challenge.pw_boughtoll_k14_texts_refused) (w := w) (base := base) (x := "first_ways") (st := s_first_ways) F_first_ways (ok_first_ways F_first_ways) gm_first_ways fun _ _ _ _ _ _ us hl => match us, hl with | [_, _], _ => rfl
    have c_check_rules := cal_of (P := PySem.Challenge.pw_boughtoll_k14_texts_refused) (w := w) (base := base) (x := "check_rules") (st := s_check_rules) F_check_rules (ok_check_rules F_check_rules m_enumerate x_InvalidRule c_is_rule) gm_check_rules fun _ _ _ _ _ _ us hl => match us, hl with | [_, _], _ => rfl
    have c_check_moves := cal_of (P := PySem.Challenge.pw_boughtoll_k14_texts_refused) (w := w) (base := base) (x := "check_moves") (st := s_check_moves) F_check_moves (ok_check_moves F_check_moves m_enumerate m_set x_InvalidMove c_is_move) gm_check_moves fun _ _ _ _ _ _ us hl => match us, hl with | [_, _], _ => rfl
    have c_check_joined := cal_of (P := PySem.Challenge.pw_boughtoll_k14_texts_refused) (w := w) (base := base) (x := "check_joined") (st := s_check_joined) F_check_joined (ok_check_joined F_check_joined m_range x_Unjoined) gm_check_joined fun _ _ _ _ _ _ us hl => match us, hl with | [_, _], _ => rfl
    have c_number_in := cal_of (P := PySem.Challenge.pw_boughtoll_k14_texts_refused) (w := w) (base := base) (x := "number_in") (st := s_number_in) F_number_in (ok_number_in F_number_in m_len m_int m_str g_MOST_DIGITS) gm_number_in fun _ _ _ _ _ _ us hl => match us, hl with | [_], _ => rfl
    have c_numbers_in := cal_of (P := PySem.Challenge.pw_boughtoll_k14_texts_refused) (w := w) (base := base) (x := "numbers_in") (st := s_numbers_in) F_numbers_in (ok_numbers_in F_numbers_in c_number_in) gm_numbers_in fun _ _ _ _ _ _ us hl => match us, hl with | [_], _ => rfl
    have c_read_rooms := cal_of (P := PySem.Challenge.pw_boughtoll_k14_texts_refused) (w := w) (base := base) (x := "read_rooms") (st := s_read_rooms) F_read_rooms (ok_read_rooms F_read_rooms c_number_in) gm_read_rooms fun _ _ _ _ _ _ us hl => match us, hl with | [_], _ => rfl
    have c_read_rule := cal_of (P := PySem.Challenge.pw_boughtoll_k14_texts_refused) (w := w) (base := base) (x := "read_rule") (st := s_read_rule) F_read_rule (ok_read_rule F_read_rule m_len m_tuple c_is_letter c_arity c_numbers_in) gm_read_rule fun _ _ _ _ _ _ us hl => match us, hl with | [_], _ => rfl
    have c_read_move := cal_of (P := PySem.Challenge.pw_boughtoll_k14_texts_refused) (w := w) (base := base) (x := "read_move") (st := s_read_move) F_read_move (ok_read_move F_read_move m_len m_tuple c_numbers_in) gm_read_move fun _ _ _ _ _ _ us hl => match us, hl with | [_], _ => rfl
    have c_law_feed := cal_of (P := PySem.Challenge.pw_boughtoll_k14_texts_refused) (w := w) (base := base) (x := "_law_feed") (st := s_law_feed) F_law_feed (ok_law_feed F_law_feed m_len m_int) gm_law_feed fun _ _ _ _ _ _ us hl => match us, hl with | [_], _ => rfl
    have c_law_draw := cal_of (P := PySem.Challenge.pw_boughtoll_k14_texts_refused) (w := w) (base := base) (x := "_law_draw") (st := s_law_draw) F_law_draw (ok_law_draw F_law_draw m_len m_int) gm_law_draw fun _ _ _ _ _ _ us hl => match us, hl with | [_, _], _ => rfl
    have c_law_any := cal_of (P := PySem.Challenge.pw_boughtoll_k14_texts_refused) (w := w) (base := base) (x := "_law_any") (st := s_law_any) F_law_any (ok_law_any F_law_any m_len c_law_draw) gm_law_any fun _ _ _ _ _ _ us hl => match us, hl with | [_, _], _ => rfl
    have c_law_arity := cal_of (P := PySem.Challenge.pw_boughtoll_k14_texts_refused) (w := w) (base := base) (x := "_law_arity") (st := s_law_arity) F_law_arity (ok_law_arity F_law_arity) gm_law_arity fun _ _ _ _ _ _ us hl => match us, hl with | [_], _ => rfl
    have c_law_letters := cal_of (P := PySem.Challenge.pw_boughtoll_k14_texts_refused) (w := w) (base := base) (x := "_law_letters") (st := s_law_letters) F_law_letters (ok_law_letters F_law_letters m_range m_enumerate m_sorted c_law_draw c_law_any) gm_law_letters fun _ _ _ _ _ _ us hl => match us, hl with | [_], _ => rfl
    have c_law_rule := cal_of (P := PySem.Challenge.pw_boughtoll_k14_texts_refused) (w := w) (base := base) (x := "_law_rule") (st := s_law_rule) F_law_rule (ok_law_rule F_law_rule m_range m_tuple c_law_draw c_law_arity) gm_law_rule fun _ _ _ _ _ _ us hl => match us, hl with | [_, _, _, _], _ => rfl
    have c_law_spec := cal_of (P := PySem.Challenge.pw_boughtoll_k14_texts_refused) (w := w) (base := base) (x := "_law_spec") (st := s_law_spec) F_law_spec (ok_law_spec F_law_spec m_range m_len m_int c_law_draw c_law_rule) gm_law_spec fun _ _ _ _ _ _ us hl => match us, hl with | [_, _, _, _], _ => rfl
    have c_law_line := cal_of (P := PySem.Challenge.pw_boughtoll_k14_texts_refused) (w := w) (base := base) (x := "_law_line") (st := s_law_line) F_law_line (ok_law_line F_law_line m_str) gm_law_line fun _ _ _ _ _ _ us hl => match us, hl with | [_], _ => rfl
    have c_law_lines := cal_of (P := PySem.Challenge.pw_boughtoll_k14_texts_refused) (w := w) (base := base) (x := "_law_lines") (st := s_law_lines) F_law_lines (ok_law_lines F_law_lines m_str c_law_line) gm_law_lines fun _ _ _ _ _ _ us hl => match us, hl with | [_], _ => rfl
    have c_law_odd_line := cal_of (P := PySem.Challenge.pw_boughtoll_k14_texts_refused) (w := w) (base := base) (x := "_law_odd_line") (st := s_law_odd_line) F_law_odd_line (ok_odd_line F_law_odd_line c_law_any) gm_law_odd_line fun _ _ _ _ _ _ us hl => match us, hl with | [_], _ => rfl
    have ck : ChK K mg (cA K "Chooser") := ⟨He.cls_ok fa_1, fun f hf => by
      simp only [List.mem_cons, List.not_mem_nil, or_false] at hf
      rcases hf with rfl | rfl | rfl | rfl | rfl
      · exact He.noat_ok fa_3
      · exact He.noat_ok fa_4
      · exact He.noat_ok fa_5
      · exact He.noat_ok fa_6
      · exact He.noat_ok fa_7, conB_ok (hE 50 _ rfl), conB_ok (hE 51 _ rfl), conB_ok (hE 52 _ rfl), He.glo_ok KX G fa_0⟩
    have cC : CalK PySem.Challenge.pw_boughtoll_k14_texts_refused w K mg base (L2.CX PySem.Challenge.pw_boughtoll_k14_texts_refused w) "Chooser" (cA K "Chooser") 5 2 ["moves"] (spInitE K (cA K "Chooser") (cA K "NoLeaf")) := by
      obtain ⟨_, kb⟩ := F_Chooser___init__.kbinds0 (ps := P_Chooser___init__) 3 ["moves"] [] (fun vs _ zs => vs ++ zs) (fun e => by cases e) (fun q hq => by cases hq) (fun h1 _ h3 => h1.append h3) (fun _ _ _ _ _ _ us _ ws h1 _ h3 => match us, h1, ws, h3 with | [_, _, _], _, [_], _ => rfl)
      exact ⟨⟨_, _, _, He.mkr_ok fa_2, ok_initE F_Chooser___init__ ck m_len m_range m_all m_sorted m_list x_NoLeaf c_check_rules c_check_moves c_check_joined c_first_ways c_arity, ck.gl, kb⟩⟩
    obtain ⟨_, kbI⟩ := F_Chooser___init__.kbinds0 (ps := P_Chooser___init__) 3 ["moves"] [] (fun vs _ zs => vs ++ zs) (fun e => by cases e) (fun q hq => by cases hq) (fun h1 _ h3 => h1.append h3) (fun _ _ _ _ _ _ us _ ws h1 _ h3 => match us, h1, ws, h3 with | [_, _, _], _, [_], _ => rfl)
    have c3 : CalK PySem.Challenge.pw_boughtoll_k14_texts_refused w K mg base (L2.CX PySem.Challenge.pw_boughtoll_k14_texts_refused w) "Chooser" (cA K "Chooser") 5 2 ["moves"] (spInit3 K (cA K "Chooser") (cA K "NoLeaf") (cA K "Unjoined") (cA K "InvalidRooms") (cA K "TooMany") (cA K "InvalidRule") (cA K "InvalidMove")) := ⟨⟨_, _, _, He.mkr_ok fa_2, fnok_or2 (fnok_or2 (ok_initE F_Chooser___init__ ck m_len m_range m_all m_sorted m_list x_NoLeaf c_check_rules c_check_moves c_check_joined c_first_ways c_arity) (ok_initX F_Chooser___init__ ck m_len x_InvalidRooms x_TooMany c_check_rules c_check_moves)) (ok_initU F_Chooser___init__ ck m_len m_range c_check_rules c_check_moves c_check_joined c_first_ways), ck.gl, kbI⟩⟩
    have cRd := cal_of (P := PySem.Challenge.pw_boughtoll_k14_texts_refused) (w := w) (base := base) (x := "read_lines") (st := s_read_lines) F_read_lines (ok_read_lines F_read_lines m_enumerate x_ParseError c_read_rooms c_read_rule c_read_move) gm_read_lines fun _ _ _ _ _ _ us hl => match us, hl with | [_], _ => rfl
    have cPa := cal_of (P := PySem.Challenge.pw_boughtoll_k14_texts_refused) (w := w) (base := base) (x := "parse_chooser") (st := s_parse_chooser) F_parse_chooser (ok_parse F_parse_chooser m_len x_ParseError cRd c3) gm_parse_chooser fun _ _ _ _ _ _ us hl => match us, hl with | [_], _ => rfl
    have k14 : Kit14 PySem.Challenge.pw_boughtoll_k14_texts_refused w K mg base (cA K "Chooser") (cA K "NoLeaf") (cA K "Unjoined") (cA K "InvalidRooms") (cA K "TooMany") (cA K "InvalidRule") (cA K "InvalidMove") (cA K "ParseError") (He.ga K) := ⟨(gets_refused F_law_refused gm_law_refused gE), cPa, ct_ParseError, ct_InvalidRule, ct_InvalidRooms, ct_Unjoined, ct_NoLeaf⟩
    exact ok_law F_law hcode (ht _ (List.mem_singleton.mpr rfl)) m_range m_len c_law_feed c_law_draw c_law_any c_law_letters c_law_spec c_law_lines c_law_odd_line k14
end Law
open PySem PySem.W PySem.Calls PyProof.Rows
theorem PySem.Challenge.cw_boughtoll_k14_texts_refused_holds : PySem.Challenge.rw_boughtoll_k14_texts_refused.Holds := by
  w_on; o_law
  refine HandSHeadRun.head_any (r := OpenLaw.row PySem.Challenge.rw_boughtoll_k14_texts_refused) (q := view (OpenLaw.row PySem.Challenge.rw_boughtoll_k14_texts_refused).prog [85]) (H := Law.hdK) (ob := Law.hdO) (M := 16000) (loose := Law.hdL) (d := HandSHeadRun.topDef (OpenLaw.row PySem.Challenge.rw_boughtoll_k14_texts_refused).prog 85) (kwd := []) Law.hdO_eq
    (by kernel_rfl) (fun s => by kernel_rfl) Law.hd_run (by kernel_rfl) (by kernel_rfl) (by kernel_rfl) (by rfl) (by first | assumption | decide +kernel) (by decide +kernel) ⟨rfl, rfl, rfl, rfl, rfl, by decide +kernel⟩ ?hw ?hc
  case hw => w_witness2
  case hc =>
    refine LamX.walk_ofTsE (l := PySem.Challenge.rw_boughtoll_k14_texts_refused) (n := 63) (k := 14) (x := "_law_script") (CX := fun _ => L2.CX0) rfl (by decide) (by kernel_rfl) ⟨rfl, by decide, by decide⟩ ?F (fun _ _ _ _ _ z => z)
    intro w mg fa h Y G hmg0
    obtain ⟨K, KX, c⟩ := Y
    have hmg : mg ("law" : PySem.Str) = some (.ref fa) := by
      have e : (HandSHeadRun.topDef (OpenLaw.row PySem.Challenge.rw_boughtoll_k14_texts_refused).prog 85).name = ("law" : PySem.Str) := by kernel_rfl
      rw [← e]
      exact hmg0
    exact ⟨K, KX, Law.hd_facts KX G hmg c⟩
namespace Law

end Law
