import PyProof.Rows.All
import Wide.All
import OpenK.AllK
import Wide.FinOn
import HandS.Base
import HandS.Call
import HandS.List
import HandS.Comp
import HandS.Ends
import HandS.Dict
import HandS.Iter
import HandS.Text
import HandS.Words
import HandS.Defaults
import HandS.Wide
import HandS.Exc
import HandS.WordsExc
import HandS.Evl
import HandS.Zip
import KE.GoesMore
import HandS.Style
import KE.KExcSuper
import HandS.ExcInit
import HandS.Nested
import KE.KTryMore
import HandS.TryOnly
import HandS.ExcField
import HandS.IsInst
import HandS.HeadHook4
import HandS.HeadWalk
import HandS.Head2
import HandS.EndTab
import HandS.NoneIn
import KE.KLam
import PySem.Challenge.RW_boughtoll_k02_subtrees
set_option Elab.async false
set_option linter.all false
set_option maxRecDepth 100000
set_option maxHeartbeats 4000000
namespace Z
open PySem L2

/-! ### the weakest readings of each kind of syntax -/
section
variable (X : Cx)
@[irreducible] def zE (e : Expr) : TE := fun σ H Q => ∀ ps s, Inv X ps σ H s → wpAny (model X.prog X.w) X.A (eval e X.env) (EP X ps σ Q) X.xe s
@[irreducible] def zT (e : Expr) : TT := fun σ H Q => ∀ ps s, Inv X ps σ H s → wpAny (model X.prog X.w) X.A (isTrue e X.env (eval e X.env)) (TP X ps σ Q) X.xe s
@[irreducible] def zW (e : Expr) : TT := fun σ H Q => ∀ wh ps s, Inv X ps σ H s → wpAny (model X.prog X.w) X.A (isTrue e X.env wh) (TP X ps σ Q) X.xe s
@[irreducible] def zA (es : List Expr) : TA := fun σ H Q => ∀ pos ps s, Inv X ps σ H s → wpAny (model X.prog X.w) X.A (spliced (backTo pos (starEach es X.env))) (AP X ps σ Q) X.xe s
@[irreducible] def zS (st : Stmt) : (St → Hp → Prop) → VK → (St → Hp → Prop) → (St → Hp → Prop) → St → Hp → Prop := fun nx rt bk ct σ H => ∀ ps s, Inv X ps σ H s → wpAny (model X.prog X.w) X.A (exec st X.env) (SP X ps ⟨nx, rt, bk, ct⟩) X.xe s
@[irreducible] def zB (sts : List Stmt) : (St → Hp → Prop) → VK → (St → Hp → Prop) → (St → Hp → Prop) → St → Hp → Prop := fun nx rt bk ct σ H => ∀ ps s, Inv X ps σ H s → wpAny (model X.prog X.w) X.A (execs sts X.env) (SP X ps ⟨nx, rt, bk, ct⟩) X.xe s
def zSt (st : Stmt) : TS := fun D σ H => zS X st D.nx D.rt D.bk D.ct σ H
def zBt (sts : List Stmt) : TS := fun D σ H => zB X sts D.nx D.rt D.bk D.ct σ H
@[irreducible] def zG (tg : Expr) : TG := fun v σ H Q => ∀ ps s u, Inv X ps σ H s → RelV v u → wpAny (model X.prog X.w) X.A (assign tg X.env u) (fun _ s' => ∃ σ' H', Inv X ps σ' H' s' ∧ Q σ' H') X.xe s
@[irreducible] def zI (tg it : Expr) : TI := fun σ H R => ∀ ps s, Inv X ps σ H s → wpAny (model X.prog X.w) X.A (eval it X.env) (fun v s1 => wpAny (model X.prog X.w) X.A (pyIter v) (PIE X ps σ tg R) X.xe s1) X.xe s
@[irreducible] def zP (e : Option Expr) : TO := fun σ H Q => ∀ ps s, Inv X ps σ H s → wpAny (model X.prog X.w) X.A (evalPart e X.env) (fun u s' => ∃ o H', Inv X ps σ H' s' ∧ IsPart u o ∧ Q o H') X.xe s
@[irreducible] def zTs (ifs : List Expr) : TT := fun σ H Q => ∀ ps s, Inv X ps σ H s → wpAny (model X.prog X.w) X.A (forIn ifs true fun c r => if r = true then do let ok ← isTrue c X.env (eval c X.env); pure (ForInStep.yield ok) else pure (ForInStep.yield r)) (TP X ps σ Q) X.xe s
/-- values -/
@[irreducible] def zO (f : Value → Value → Sem Value) : R2 := fun x y H Q => ∀ ps s σ v u, Inv X ps σ H s → RelV x v → RelV y u → wpAny (model X.prog X.w) X.A (f v u) (EP X ps σ Q) X.xe s
@[irreducible] def zU (f : Value → Sem Value) : V → Hp → VK → Prop := fun x H Q => ∀ ps s σ v, Inv X ps σ H s → RelV x v → wpAny (model X.prog X.w) X.A (f v) (EP X ps σ Q) X.xe s
@[irreducible] def zC (f : Value) : List V → Hp → VK → Prop := fun xs H Q => ∀ ps s σ us, Inv X ps σ H s → Vals xs us → wpAny (model X.prog X.w) X.A (call f us) (EP X ps σ Q) X.xe s
@[irreducible] def zX : R2 := fun x y H Q => ∀ value slice ps s σ v u, Inv X ps σ H s → RelV x v → RelV y u → subscripted slice false v u = operate [v, u] (getItem v u) → wpAny (model X.prog X.w) X.A (PyProof.Rows.subscriptTail value slice v u) (EP X ps σ Q) X.xe s
@[irreducible] def zSet : TSet := fun o i v H Q => ∀ ps s σ ov iv u, Inv X ps σ H s → RelV o ov → RelV i iv → RelV v u → wpAny (model X.prog X.w) X.A (setItem ov iv u) (fun _ s' => ∃ H', Inv X ps σ H' s' ∧ Q H') X.xe s
@[irreducible] def zSl : V → Option Int → Option Int → Hp → VK → Prop := fun x lo hi H Q => ∀ ps s σ v vl vu sl, Inv X ps σ H s → RelV x v → s.heap.IsSliceOf sl vl vu .none → IsPart vl lo → IsPart vu hi →
  ∃ T id, typeLookup (.type T) "__getitem__" = pure (some (.builtin id)) ∧ s.TypeIs v T ∧ wpAny (model X.prog X.w) X.A (getItem v (.ref sl)) (EP X ps σ Q) X.xe s
end
section
variable {X : Cx}
theorem zE_ok (e : Expr) : PE X e (zE X e) := ⟨fun ps s σ H Q I h => by unfold zE at h; exact h ps s I⟩
theorem zE_of {e : Expr} {t : TE} (p : PE X e t) {σ : St} {H : Hp} {Q : VK} (h : t σ H Q) : zE X e σ H Q := by unfold zE; exact fun ps s I => p.run ps s σ H Q I h
theorem zT_ok (e : Expr) : PT X e (zT X e) := ⟨fun ps s σ H Q I h => by unfold zT at h; exact h ps s I⟩
theorem zT_of {e : Expr} {t : TT} (p : PT X e t) {σ : St} {H : Hp} {Q : Bool → Hp → Prop} (h : t σ H Q) : zT X e σ H Q := by unfold zT; exact fun ps s I => p.run ps s σ H Q I h
theorem zW_ok (e : Expr) : PW X e (zW X e) := ⟨fun wh ps s σ H Q I h => by unfold zW at h; exact h wh ps s I⟩
theorem zW_of {e : Expr} {t : TT} (p : PW X e t) {σ : St} {H : Hp} {Q : Bool → Hp → Prop} (h : t σ H Q) : zW X e σ H Q := by unfold zW; exact fun wh ps s I => p.run wh ps s σ H Q I h
theorem zA_ok (e : List Expr) : PA X e (zA X e) := ⟨fun pos ps s σ H Q I h => by unfold zA at h; exact h pos ps s I⟩
theorem zA_of {e : List Expr} {t : TA} (p : PA X e t) {σ : St} {H : Hp} {Q : List V → Hp → Prop} (h : t σ H Q) : zA X e σ H Q := by unfold zA; exact fun pos ps s I => p.run pos ps s σ H Q I h
theorem zS_ok (e : Stmt) : PS X e (zSt X e) := ⟨fun ps s σ H D I h => by unfold zSt zS at h; exact h ps s I⟩
theorem zS_of {e : Stmt} {t : TS} (p : PS X e t) {σ : St} {H : Hp} {nx bk ct : St → Hp → Prop} {rt : VK} (h : t ⟨nx, rt, bk, ct⟩ σ H) : zS X e nx rt bk ct σ H := by unfold zS; exact fun ps s I => p.run ps s σ H _ I h
theorem zB_ok (e : List Stmt) : PSs X e (zBt X e) := ⟨fun ps s σ H D I h => by unfold zBt zB at h; exact h ps s I⟩
theorem zB_of {e : List Stmt} {t : TS} (p : PSs X e t) {σ : St} {H : Hp} {nx bk ct : St → Hp → Prop} {rt : VK} (h : t ⟨nx, rt, bk, ct⟩ σ H) : zB X e nx rt bk ct σ H := by unfold zB; exact fun ps s I => p.run ps s σ H _ I h
theorem zG_ok (e : Expr) : PG X e (zG X e) := ⟨fun ps s σ H v u Q I r h => by unfold zG at h; exact h ps s u I r⟩
theorem zG_of {e : Expr} {t : TG} (p : PG X e t) {v : V} {σ : St} {H : Hp} {Q : St → Hp → Prop} (h : t v σ H Q) : zG X e v σ H Q := by unfold zG; exact fun ps s u I r => p.run ps s σ H v u Q I r h
theorem zI_ok (tg e : Expr) : PI X tg e (zI X tg e) := ⟨fun ps s σ H R I h => by unfold zI at h; exact h ps s I⟩
theorem zI_of {tg e : Expr} {t : TI} (p : PI X tg e t) {σ : St} {H : Hp} {R : It → Hp → Prop} (h : t σ H R) : zI X tg e σ H R := by unfold zI; exact fun ps s I => p.run ps s σ H R I h
theorem zP_ok (e : Option Expr) : PO X e (zP X e) := ⟨fun ps s σ H Q I h => by unfold zP at h; exact h ps s I⟩
theorem zP_of {e : Option Expr} {t : TO} (p : PO X e t) {σ : St} {H : Hp} {Q : Option Int → Hp → Prop} (h : t σ H Q) : zP X e σ H Q := by unfold zP; exact fun ps s I => p.run ps s σ H Q I h
theorem zTs_ok (e : List Expr) : PTs X e (zTs X e) := ⟨fun ps s σ H Q I h => by unfold zTs at h; exact h ps s I⟩
theorem zTs_of {e : List Expr} {t : TT} (p : PTs X e t) {σ : St} {H : Hp} {Q : Bool → Hp → Prop} (h : t σ H Q) : zTs X e σ H Q := by unfold zTs; exact fun ps s I => p.run ps s σ H Q I h
theorem zO_ok (f : Value → Value → Sem Value) : OpR X f (zO X f) := fun ps s σ H x y v u Q I rx ry h => by unfold zO at h; exact h ps s σ v u I rx ry
theorem zO_of {f : Value → Value → Sem Value} {r : R2} (p : OpR X f r) {x y : V} {H : Hp} {Q : VK} (h : r x y H Q) : zO X f x y H Q := by unfold zO; exact fun ps s σ v u I rx ry => p ps s σ H x y v u Q I rx ry h
theorem zU_ok (f : Value → Sem Value) : UnR X f (zU X f) := fun ps s σ H x v Q I rx h => by unfold zU at h; exact h ps s σ v I rx
theorem zU_of {f : Value → Sem Value} {r : V → Hp → VK → Prop} (p : UnR X f r) {x : V} {H : Hp} {Q : VK} (h : r x H Q) : zU X f x H Q := by unfold zU; exact fun ps s σ v I rx => p ps s σ H x v Q I rx h
theorem zC_ok (f : Value) : CallR X f (zC X f) := fun ps s σ H xs us Q I rx h => by unfold zC at h; exact h ps s σ us I rx
theorem zC_of {f : Value} {r : List V → Hp → VK → Prop} (p : CallR X f r) {xs : List V} {H : Hp} {Q : VK} (h : r xs H Q) : zC X f xs H Q := by unfold zC; exact fun ps s σ us I rx => p ps s σ H xs us Q I rx h
theorem zX_ok : IxR X (zX X) := fun value slice ps s σ H x y v u Q I rx ry h hs => by unfold zX at h; exact h value slice ps s σ v u I rx ry hs
theorem zX_of {r : R2} (p : IxR X r) {x y : V} {H : Hp} {Q : VK} (h : r x y H Q) : zX X x y H Q := by unfold zX; exact fun value slice ps s σ v u I rx ry hs => p value slice ps s σ H x y v u Q I rx ry h hs
theorem zSet_ok : PSet X (zSet X) := fun ps s σ H o i v ov iv u Q I ro ri rv h => by unfold zSet at h; exact h ps s σ ov iv u I ro ri rv
theorem zSet_of {t : TSet} (p : PSet X t) {o i v : V} {H : Hp} {Q : Hp → Prop} (h : t o i v H Q) : zSet X o i v H Q := by unfold zSet; exact fun ps s σ ov iv u I ro ri rv => p ps s σ H o i v ov iv u Q I ro ri rv h
theorem zSl_ok : SlR X (zSl X) := fun ps s σ H x v vl vu lo hi sl Q I rx hs pl pu h => by unfold zSl at h; exact h ps s σ v vl vu sl I rx hs pl pu
theorem zSl_of {r : V → Option Int → Option Int → Hp → VK → Prop} (p : SlR X r) {x : V} {lo hi : Option Int} {H : Hp} {Q : VK} (h : r x lo hi H Q) : zSl X x lo hi H Q := by unfold zSl; exact fun ps s σ v vl vu sl I rx hs pl pu => p ps s σ H x v vl vu lo hi sl Q I rx hs pl pu h
end

section
variable {X : Cx} {σ : St} {H : Hp}
theorem zE_mono {e : Expr} {Q Q' : VK} (h : zE X e σ H Q) (k : ∀ v H', Q v H' → Q' v H') : zE X e σ H Q' := by
  unfold zE at h ⊢
  exact fun ps s I => thn (h ps s I) fun u s1 ⟨v, H1, I1, r1, q1⟩ => ⟨v, H1, I1, r1, k v H1 q1⟩
theorem zO_mono {f : Value → Value → Sem Value} {x y : V} {Q Q' : VK} (h : zO X f x y H Q) (k : ∀ v H', Q v H' → Q' v H') : zO X f x y H Q' := by
  unfold zO at h ⊢
  exact fun ps s σ v u I rx ry => thn (h ps s σ v u I rx ry) fun u s1 ⟨v, H1, I1, r1, q1⟩ => ⟨v, H1, I1, r1, k v H1 q1⟩
theorem zA_mono {es : List Expr} {Q Q' : List V → Hp → Prop} (h : zA X es σ H Q) (k : ∀ v H', Q v H' → Q' v H') : zA X es σ H Q' := by
  unfold zA at h ⊢
  exact fun pos ps s I => thn (h pos ps s I) fun u s1 ⟨v, H1, I1, r1, q1⟩ => ⟨v, H1, I1, r1, k v H1 q1⟩
theorem zT_mono {e : Expr} {Q Q' : Bool → Hp → Prop} (h : zT X e σ H Q) (k : ∀ v H', Q v H' → Q' v H') : zT X e σ H Q' := by
  unfold zT at h ⊢
  exact fun ps s I => thn (h ps s I) fun u s1 ⟨H1, I1, q1⟩ => ⟨H1, I1, k _ H1 q1⟩
end
/-! ### rules: statements -/
/-- the i-th name is x, to be seen -/
structure Nm (X : Cx) (x : Str) (i : Nat) : Prop where
  ix : X.N[i]? = some x
  vis : Vis X.env.scope x
/-- .. and to be stored -/
structure Ns (X : Cx) (x : Str) (i : Nat) : Prop where
  nd : X.N.Nodup
  ix : X.N[i]? = some x
  loc : Loc X.env.scope x
  fn : X.fn x = true ∨ X.env.scope.names.lookup x = some .local
section
variable {X : Cx} {σ : St} {H : Hp} {nx bk ct : St → Hp → Prop} {rt : VK} {Q : VK} {QT : Bool → Hp → Prop} {QA : List V → Hp → Prop}
theorem b_nil (h : nx σ H) : zB X [] nx rt bk ct σ H := zB_of pss_nil h
theorem b_cons {st : Stmt} {rest : List Stmt} (h : zS X st (fun σ H => zB X rest nx rt bk ct σ H) rt bk ct σ H) : zB X (st :: rest) nx rt bk ct σ H := zB_of (pss_cons (zS_ok st) (zB_ok rest)) h
theorem b_one {st : Stmt} (h : zS X st nx rt bk ct σ H) : zB X [st] nx rt bk ct σ H := zB_of (pss_one (zS_ok st)) h
theorem s_pass {pos : Pos} (h : nx σ H) : zS X (.Pass pos) nx rt bk ct σ H := zS_of ps_pass h
theorem s_break {pos : Pos} (h : bk σ H) : zS X (.Break pos) nx rt bk ct σ H := zS_of ps_break h
theorem s_continue {pos : Pos} (h : ct σ H) : zS X (.Continue pos) nx rt bk ct σ H := zS_of ps_continue h
theorem s_expr {e : Expr} {pos : Pos} (h : zE X e σ H fun _ H1 => nx σ H1) (hs : swapsWith e none pos.line X.env = pure false := by rfl) : zS X (.Expr e pos) nx rt bk ct σ H := zS_of (ps_expr (zE_ok e) hs) h
theorem s_ret {e : Expr} {pos : Pos} (h : zE X e σ H rt) : zS X (.Return (some e) pos) nx rt bk ct σ H := zS_of (ps_ret (zE_ok e)) h
theorem s_retN {pos : Pos} (h : rt .non H) : zS X (.Return none pos) nx rt bk ct σ H := zS_of ps_retN h
theorem s_if {c : Expr} {a b : List Stmt} {pos : Pos} (h : zT X c σ H fun k H1 => if k = true then zB X a nx rt bk ct σ H1 else zB X b nx rt bk ct σ H1) : zS X (.If c a b pos) nx rt bk ct σ H := zS_of (ps_if (zT_ok c) (zB_ok a) (zB_ok b)) h
theorem s_set {x : Str} {i : Nat} {e : Expr} {pos pos' : Pos} (n : Ns X x i) (h : zE X e σ H fun v H1 => nx (σ.set i (some v)) H1) (hs : swapsWith e (some (.Name x pos')) pos.line X.env = pure false := by rfl) : zS X (.Assign [.Name x pos'] e pos) nx rt bk ct σ H :=
  zS_of (ps_set n.nd n.ix n.loc (zE_ok e) hs n.fn) h
theorem s_asg {tg e : Expr} {pos : Pos} (h : zE X e σ H fun v H1 => zG X tg v σ H1 nx) (hs : swapsWithSole [tg] e pos.line X.env = pure false := by rfl) (hw : swappedStores [tg] e X.env = pure none := by rfl)
    (h1 : (assignEach [tg] X.env).map (·.2) = [assign tg X.env] := by rfl) : zS X (.Assign [tg] e pos) nx rt bk ct σ H := zS_of (ps_asg (zE_ok e) (zG_ok tg) hs hw h1) h
theorem s_par {i j : Nat} {x y : Str} {a b : Expr} {px py pt pos : Pos} {kt k2 pt2} (hc : X.calm = true) (nx' : Ns X x i) (ny : Ns X y j) (hij : i ≠ j)
    (hx : X.env.scope.names.lookup x = some .local) (hy : X.env.scope.names.lookup y = some .local)
    (h : zE X a σ H fun v H1 => zE X b σ H1 fun w H2 => nx ((σ.set i (some v)).set j (some w)) H2)
    (hs2 : starEach [a, b] X.env = (false, eval a X.env) :: starEach [b] X.env := by rfl) (hs1 : starEach [b] X.env = (false, eval b X.env) :: starEach [] X.env := by rfl)
    (hw : swappedStores [.Tuple [.Name x px, .Name y py] kt pt] (.Tuple [a, b] k2 pt2) X.env = pure (some [x, y]) := by rfl)
    (hs : swapsWithSole [.Tuple [.Name x px, .Name y py] kt pt] (.Tuple [a, b] k2 pt2) pos.line X.env = pure false := by rfl) :
    zS X (.Assign [.Tuple [.Name x px, .Name y py] kt pt] (.Tuple [a, b] k2 pt2) pos) nx rt bk ct σ H :=
  zS_of (ps_par hc nx'.nd nx'.ix ny.ix hij hx hy (pa_cons (zE_ok a) (pa_cons (zE_ok b) pa_nil hs1) hs2) hw hs) (zE_mono h fun v H1 h1 => zE_mono h1 fun w H2 h2 => ⟨_, _, rfl, h2⟩)
theorem zS_never {st : Stmt} (h : False) : zS X st nx rt bk ct σ H := h.elim
theorem zPIp {op : Operator} : PIp X op (zO X (inplaceOp op)) := fun ps s σ H x y v u Q I rx ry h => by unfold zO at h; exact h ps s σ v u I rx ry
theorem s_aug {x : Str} {i : Nat} {e : Expr} {op : Operator} {pos pos' : Pos} {v : V} (n : Ns X x i) (hv : σ[i]? = some (some v)) (h : zE X e σ H fun y H1 => zO X (inplaceOp op) v y H1 fun z H2 => nx (σ.set i (some z)) H2) : zS X (.AugAssign (.Name x pos') op e pos) nx rt bk ct σ H :=
  zS_of (ps_aug n.nd n.ix n.loc (zE_ok e) zPIp n.fn) ⟨v, hv, h⟩
/-- a statement, then the rest from a word between them -/
theorem b_cut {st : Stmt} {rest : List Stmt} (Mid : St → Hp → Prop) (h : zS X st Mid rt bk ct σ H) (k : ∀ σ' H', Mid σ' H' → zB X rest nx rt bk ct σ' H') : zB X (st :: rest) nx rt bk ct σ H := b_cons (by
  unfold zS at h ⊢
  exact fun ps s I => thn (h ps s I) fun f s1 q => by
    cases f with
    | next => obtain ⟨σ', H', I', q⟩ := q; exact ⟨σ', H', I', k _ _ q⟩
    | ret v => exact q
    | brk => exact q
    | cont => exact q)
theorem g_name {x : Str} {i : Nat} {v : V} {pos : Pos} {QG : St → Hp → Prop} (n : Ns X x i) (h : QG (σ.set i (some v)) H) : zG X (.Name x pos) v σ H QG := zG_of (pg_name n.nd n.ix n.loc n.fn) h
theorem g_sub {o i : Expr} {v : V} {pos : Pos} {QG : St → Hp → Prop} (h : zE X o σ H fun a H1 => zE X i σ H1 fun b H2 => zSet X a b v H2 fun H3 => QG σ H3)
    (hp : PG X (.Subscript o i pos) (gSub (zE X o) (zE X i) (zSet X)) := by exact pg_sub (zE_ok _) (zE_ok _) zSet_ok) : zG X (.Subscript o i pos) v σ H QG := zG_of hp h

/-! ### rules: expressions -/
theorem e_name {x : Str} {i : Nat} {pos : Pos} {v : V} (n : Nm X x i) (hv : σ[i]? = some (some v)) (h : Q v H) (hd : (x == ("__debug__" : Str)) = false := by decide) (hcd : (x == ("__classdict__" : Str)) = false := by decide) : zE X (.Name x pos) σ H Q :=
  zE_of (pe_var n.ix n.vis hd hcd) ⟨v, hv, h⟩
theorem e_glob {x : Str} {v : V} {u : Value} {pos : Pos} (hg : Gl X x) (hm : X.mg x = some u) (r : RelV v u) (h : Q v H) (hd : (x == ("__debug__" : Str)) = false := by decide) : zE X (.Name x pos) σ H Q := zE_of (pe_glob hg hm r hd) h
theorem e_int {i j pos} (h : Q (.int i) H) : zE X (.Constant (.int i) j pos) σ H Q := zE_of pe_int h
theorem e_bl {i j pos} (h : Q (.bl i) H) : zE X (.Constant (.bool i) j pos) σ H Q := zE_of pe_bl h
theorem e_non {j pos} (h : Q .non H) : zE X (.Constant .none j pos) σ H Q := zE_of pe_non h
theorem e_str {z j pos} (h : Q (.str z) H) : zE X (.Constant (.str z) j pos) σ H Q := zE_of pe_str h
theorem e_op {a b : Expr} {op : Operator} {pos : Pos} (h : zE X a σ H fun x H1 => zE X b σ H1 fun y H2 => zO X (binaryOp op) x y H2 Q) : zE X (.BinOp a op b pos) σ H Q := zE_of (pe_op (zO_ok _) (zE_ok a) (zE_ok b)) h
theorem e_un {a : Expr} {op : UnaryOp} {pos : Pos} (h : zE X a σ H fun x H1 => zU X (unaryOp op) x H1 Q) : zE X (.UnaryOp op a pos) σ H Q := zE_of (pe_un (zU_ok _) (zE_ok a)) h
theorem e_cmp {a b : Expr} {op : CmpOp} {pos : Pos} (h : zE X a σ H fun x H1 => zE X b σ H1 fun y H2 => zO X (compareOp op) x y H2 Q) (hm : behindInMarks op b = false := by rfl) : zE X (.Compare a [op] [b] pos) σ H Q := zE_of (pe_cmpR (zO_ok _) (zE_ok a) (zE_ok b) hm) h
theorem t_cmp {a b : Expr} {op : CmpOp} {pos : Pos} (h : zE X a σ H fun x H1 => zE X b σ H1 fun y H2 => zO X (compareOp op) x y H2 fun z H3 => ∃ k, z = .bl k ∧ QT k H3) (hm : behindInMarks op b = false := by rfl) : zT X (.Compare a [op] [b] pos) σ H QT := zT_of (pt_cmpR (zO_ok _) (zE_ok a) (zE_ok b) hm) h
theorem t_and {a b : Expr} {rest : List Expr} {pos : Pos} (h : zT X a σ H fun k H1 => if k = true then zW X (.BoolOp .And (b :: rest) pos) σ H1 QT else QT false H1) : zT X (.BoolOp .And (a :: b :: rest) pos) σ H QT := zT_of (pw_and (zT_ok a) (zW_ok _)).pt h
theorem t_or {a b : Expr} {rest : List Expr} {pos : Pos} (h : zT X a σ H fun k H1 => if k = true then QT true H1 else zW X (.BoolOp .Or (b :: rest) pos) σ H1 QT) : zT X (.BoolOp .Or (a :: b :: rest) pos) σ H QT := zT_of (pw_or (zT_ok a) (zW_ok _)).pt h
theorem w_and {a b : Expr} {rest : List Expr} {pos : Pos} (h : zT X a σ H fun k H1 => if k = true then zW X (.BoolOp .And (b :: rest) pos) σ H1 QT else QT false H1) : zW X (.BoolOp .And (a :: b :: rest) pos) σ H QT := zW_of (pw_and (zT_ok a) (zW_ok _)) h
theorem w_or {a b : Expr} {rest : List Expr} {pos : Pos} (h : zT X a σ H fun k H1 => if k = true then QT true H1 else zW X (.BoolOp .Or (b :: rest) pos) σ H1 QT) : zW X (.BoolOp .Or (a :: b :: rest) pos) σ H QT := zW_of (pw_or (zT_ok a) (zW_ok _)) h
theorem w_and1 {a : Expr} {pos : Pos} (h : zT X a σ H QT) : zW X (.BoolOp .And [a] pos) σ H QT := zW_of (pw_and1 (zT_ok a)) h
theorem w_or1 {a : Expr} {pos : Pos} (h : zT X a σ H QT) : zW X (.BoolOp .Or [a] pos) σ H QT := zW_of (pw_or1 (zT_ok a)) h
theorem t_not {a : Expr} {pos : Pos} (h : zT X a σ H fun k H1 => QT (!k) H1) : zT X (.UnaryOp .Not a pos) σ H QT := zT_of (pt_not (zT_ok a)) h
theorem t_val {e : Expr} (h : zE X e σ H fun z H1 => ∃ k, z = .bl k ∧ QT k H1) (he : ∀ whole, isTrue e X.env whole = (do let v ← whole; standAt e.pos; holding [v] (truthy v)) := by intro _; rfl) : zT X e σ H QT := zT_of (pt_val (zE_ok e) he) h
theorem t_truth {e : Expr} (h : zE X e σ H fun z H1 => ∃ k, TruV X.K z H1 k ∧ QT k H1) (he : ∀ whole, isTrue e X.env whole = (do let v ← whole; standAt e.pos; holding [v] (truthy v)) := by intro _; rfl) : zT X e σ H QT := zT_of (pt_truth (zE_ok e) he) h
theorem e_and {a b : Expr} {rest : List Expr} {pos : Pos} (h : zE X a σ H fun x H1 => ∃ c, x = .bl c ∧ if c = true then zE X (.BoolOp .And (b :: rest) pos) σ H1 Q else Q (.bl false) H1) : zE X (.BoolOp .And (a :: b :: rest) pos) σ H Q := zE_of (pe_and (zE_ok a) (zE_ok _)) h
theorem e_or {a b : Expr} {rest : List Expr} {pos : Pos} (h : zE X a σ H fun x H1 => ∃ c, x = .bl c ∧ if c = true then Q (.bl true) H1 else zE X (.BoolOp .Or (b :: rest) pos) σ H1 Q) : zE X (.BoolOp .Or (a :: b :: rest) pos) σ H Q := zE_of (pe_or (zE_ok a) (zE_ok _)) h
theorem e_bone {a : Expr} {op : BoolOp} {pos : Pos} (h : zE X a σ H Q) : zE X (.BoolOp op [a] pos) σ H Q := zE_of (pe_one (zE_ok a)) h
theorem e_not {a : Expr} {pos : Pos} (h : zE X a σ H fun x H1 => ∃ c, x = .bl c ∧ Q (.bl (!c)) H1) : zE X (.UnaryOp .Not a pos) σ H Q := zE_of (pe_not (zE_ok a)) h
theorem e_if {c a b : Expr} {pos : Pos} (h : zT X c σ H fun k H1 => if k = true then zE X a σ H1 Q else zE X b σ H1 Q) : zE X (.IfExp c a b pos) σ H Q := zE_of (pe_ifExp (zT_ok c) (zE_ok a) (zE_ok b)) h
theorem e_chain {a b c : Expr} {op op' : CmpOp} {pos : Pos} (h : zE X a σ H fun x H1 => zE X b σ H1 fun y H2 => zO X (compareOp op) x y H2 fun z H3 => ∃ k, z = V.bl k ∧ (if k = true then zE X c σ H3 fun w' H4 => zO X (compareOp op') y w' H4 Q else Q (V.bl false) H3))
    (hm : lastMarks [op, op'] [b, c] = false := by with_unfolding_all rfl) : zE X (.Compare a [op, op'] [b, c] pos) σ H Q := zE_of (pe_chain (zO_ok _) (zO_ok _) (zE_ok a) (zE_ok b) (zE_ok c) hm) h
def qB (QT : Bool → Hp → Prop) : VK := fun z H => ∃ k, z = V.bl k ∧ QT k H
theorem t_chain {a b c : Expr} {op op' : CmpOp} {pos : Pos} (h : zE X a σ H fun x H1 => zE X b σ H1 fun y H2 => zO X (compareOp op) x y H2 fun z H3 => ∃ k, z = V.bl k ∧ (if k = true then zE X c σ H3 fun w' H4 => zO X (compareOp op') y w' H4 (qB QT) else QT false H3))
    (hm : lastMarks [op, op'] [b, c] = false := by with_unfolding_all rfl) : zT X (.Compare a [op, op'] [b, c] pos) σ H QT := zT_of (pt_chain (zO_ok _) (zO_ok _) (zE_ok a) (zE_ok b) (zE_ok c) hm)
  (zE_mono h fun x H1 h1 => zE_mono h1 fun y H2 h2 => zO_mono h2 fun z H3 ⟨k, e, h3⟩ => ⟨k, e, by
    cases k with
    | true => exact h3
    | false => exact ⟨false, rfl, h3⟩⟩)
theorem a_nil (h : QA [] H) : zA X [] σ H QA := zA_of pa_nil h
theorem a_cons {e : Expr} {es : List Expr} (h : zE X e σ H fun x H1 => zA X es σ H1 fun xs H2 => QA (x :: xs) H2) (hs : starEach (e :: es) X.env = (false, eval e X.env) :: starEach es X.env := by rfl) : zA X (e :: es) σ H QA := zA_of (pa_cons (zE_ok e) (zA_ok es) hs) h
theorem e_tup {es : List Expr} {k pos} (h : zA X es σ H fun xs H1 => xs.length ≤ sizeLine ∧ ∀ p, H1 p = none → Q (.ref p) (upd H1 p (.tup xs))) : zE X (.Tuple es k pos) σ H Q := zE_of (pe_tup (zA_ok es)) h
theorem e_lst {es : List Expr} {pos} (h : zA X es σ H fun xs H1 => xs.length ≤ sizeLine ∧ ∀ p, H1 p = none → Q (.ref p) (upd H1 p (.lst xs))) : zE X (.List es pos) σ H Q := zE_of (pe_lst (zA_ok es)) h
theorem e_ix {a b : Expr} {pos : Pos} (h : zE X a σ H fun x H1 => zE X b σ H1 fun y H2 => zX X x y H2 Q) (hs : PlainIx b := by exact fun _ _ => rfl) : zE X (.Subscript a b pos) σ H Q := zE_of (pe_ix zX_ok (zE_ok a) (zE_ok b) hs) h
theorem e_slice {e : Expr} {lo hi : Option Expr} {pos p2 : Pos} (h : zE X e σ H fun x H1 => zP X lo σ H1 fun l H2 => zP X hi σ H2 fun u H3 => zSl X x l u H3 Q) : zE X (.Subscript e (.Slice lo hi none p2) pos) σ H Q := zE_of (pe_slice zSl_ok (zE_ok e) (zP_ok lo) (zP_ok hi)) h
theorem p_none {QO : Option Int → Hp → Prop} (h : QO none H) : zP X none σ H QO := zP_of po_none h
theorem p_some {e : Expr} {QO : Option Int → Hp → Prop} (h : zE X e σ H fun x H1 => ∃ i, x = .int i ∧ QO (some i) H1) : zP X (some e) σ H QO := zP_of (po_some (zE_ok e)) h
theorem e_callB {x : Str} {id : String} {e : Expr} {es : List Expr} {p pos : Pos} (hg : Gl X x) (hm : X.mg x = none) (hv : bootBuiltins x = some (.builtin id)) (h : zA X (e :: es) σ H fun vs H1 => zC X (.builtin id) vs H1 Q) (hn : x ≠ "__name__" := by decide) (hdb : (x == ("__debug__" : Str)) = false := by decide)
    (he : starEach (e :: es) X.env = (false, eval e X.env) :: starEach es X.env := by rfl) (hpl : (backTo pos (starEach es X.env)).any (·.1) = false := by rfl) : zE X (.Call (.Name x p) (e :: es) [] pos) σ H Q := zE_of (pe_callB (zC_ok _) hg hm hv (zA_ok _) hn hdb he hpl) h
theorem e_callT {x : Str} {id : String} {e : Expr} {es : List Expr} {p pos : Pos} (hg : Gl X x) (hm : X.mg x = none) (hv : bootBuiltins x = some (.type id)) (h : zA X (e :: es) σ H fun vs H1 => zC X (.type id) vs H1 Q) (hn : x ≠ "__name__" := by decide) (hdb : (x == ("__debug__" : Str)) = false := by decide)
    (he : starEach (e :: es) X.env = (false, eval e X.env) :: starEach es X.env := by rfl) (hpl : (backTo pos (starEach es X.env)).any (·.1) = false := by rfl) : zE X (.Call (.Name x p) (e :: es) [] pos) σ H Q := zE_of (pe_callTy (zC_ok _) hg hm hv (zA_ok _) hn hdb he hpl) h
theorem e_mt {o e : Expr} {es : List Expr} {name : Str} {apos cpos : Pos} {T id : String} {r : V → List V → Hp → VK → Prop} (pa : PlainAttrs T) (slot : Slot T name id) (hty : typeOf (.builtin id) = pure (.type "method_descriptor")) (hm : MtR X id r)
    (h : zE X o σ H fun x H1 => tyV X.K T x H1 ∧ zA X (e :: es) σ H1 fun xs H2 => r x xs H2 Q)
    (hbase : attributeBase o name X.env (eval o X.env) = eval o X.env := by rfl)
    (hfew : ((backTo cpos (starEach (e :: es) X.env)).all (fun x => !x.1) && (backToKw cpos (keywordEach [] X.env)).all (fun x => x.1.isSome)
      && decide ((e :: es).length + ([] : List Keyword).length + (if ([] : List Keyword).isEmpty then 0 else 1) < 30)) = true := by rfl)
    (hline : (apos.endLine == cpos.line) = true := by rfl) (hs : starEach (e :: es) X.env = (false, eval e X.env) :: starEach es X.env := by rfl) (hplain : (backTo cpos (starEach es X.env)).any (·.1) = false := by rfl) :
    zE X (.Call (.Attribute o name apos) (e :: es) [] cpos) σ H Q := zE_of (pe_bm pa slot hty hm (zE_ok o) (zA_ok _) hbase hfew hline hs hplain) h
theorem e_mt0 {o : Expr} {name : Str} {apos cpos : Pos} {T id : String} {r : V → List V → Hp → VK → Prop} (pa : PlainAttrs T) (slot : Slot T name id) (hty : typeOf (.builtin id) = pure (.type "method_descriptor")) (hm : MtR X id r)
    (h : zE X o σ H fun x H1 => tyV X.K T x H1 ∧ r x [] H1 Q)
    (hbase : attributeBase o name X.env (eval o X.env) = eval o X.env := by rfl) (hline : (apos.endLine == cpos.line) = true := by rfl) :
    zE X (.Call (.Attribute o name apos) [] [] cpos) σ H Q := zE_of (pe_bm0 pa slot hty hm (zE_ok o) hbase hline) h
end
end Z

namespace Z
open PySem L2

/-- where a body stands -/
structure Ctx (X : Cx) (P : Program) (w : World) (K : PySem.W.Frag) (mg : Str → Option Value) (base : Heap) (N : List Str) (sc : Scope) (k : Nat) : Prop where
  prog : X.prog = P
  wld : X.w = w
  frg : X.K = K
  mgl : X.mg = mg
  bas : X.base = base
  nms : X.N = N
  scp : X.env.scope = sc
  calm : X.calm = true
  room : Room k X.A
  own : PassesOwn (model X.prog X.w) X.A X.env X.xe
  nd : N.Nodup

def visB (sc : Scope) (x : Str) : Bool := (sc.names.lookup x == some .local) || ((sc.names.lookup x == some .cell) || (sc.names.lookup x == some .free))
def locB (sc : Scope) (x : Str) : Bool := (sc.names.lookup x == some .local) || (sc.names.lookup x == some .cell)
def lclB (sc : Scope) (x : Str) : Bool := sc.names.lookup x == some .local
def gloB (sc : Scope) (x : Str) : Bool := sc.names.lookup x == some .globalImplicit
section
variable {X : Cx} {P : Program} {w : World} {K : PySem.W.Frag} {mg : Str → Option Value} {base : Heap} {N : List Str} {sc : Scope} {k : Nat}
theorem Ctx.nm (C : Ctx X P w K mg base N sc k) {x : Str} {i : Nat} (h1 : N[i]? = some x) (h2 : visB sc x = true) : Nm X x i := by
  refine ⟨by rw [C.nms]; exact h1, ?_⟩
  rw [C.scp]
  unfold visB at h2
  simp only [Bool.or_eq_true, beq_iff_eq] at h2
  exact h2
theorem Ctx.ns (C : Ctx X P w K mg base N sc k) {x : Str} {i : Nat} (h1 : N[i]? = some x) (h2 : locB sc x = true) (hf : X.fn x = true ∨ lclB sc x = true) : Ns X x i := by
  refine ⟨by rw [C.nms]; exact C.nd, by rw [C.nms]; exact h1, ?_, ?_⟩
  · rw [C.scp]
    unfold locB at h2
    simp only [Bool.or_eq_true, beq_iff_eq] at h2
    exact h2
  · rw [C.scp]
    refine hf.imp id fun h => ?_
    unfold lclB at h
    exact beq_iff_eq.mp h
theorem Ctx.gl (C : Ctx X P w K mg base N sc k) {x : Str} (h : gloB sc x = true) : Gl X x := by
  show X.env.scope.names.lookup x = _
  rw [C.scp]
  unfold gloB at h
  exact beq_iff_eq.mp h
theorem Ctx.mono (C : Ctx X P w K mg base N sc k) {j : Nat} (h : j ≤ k) : Ctx X P w K mg base N sc j := { C with room := C.room.mono h }
theorem Ctx.lcl (C : Ctx X P w K mg base N sc k) {x : Str} (h : lclB sc x = true) : X.env.scope.names.lookup x = some .local := by
  rw [C.scp]
  unfold lclB at h
  exact beq_iff_eq.mp h
theorem Ctx.hu (C : Ctx X P w K mg base N sc k) : X.A.units + 1 < cLine := hu_of C.room

/-- a def of the module that may be called: its promise holds up to level j -/
structure Cal (P : Program) (w : World) (K : PySem.W.Frag) (mg : Str → Option Value) (base : Heap) (CX : CXT) (x : Str) (j : Nat) (n : Nat) (sp : Sp) : Prop where
  ex : ∃ (f : Addr) (fd : FuncData) (ps : List Str), FnOk P w K mg base CX j f fd ps sp ∧ mg x = some (.ref f) ∧ PySem.W.keepIn K (.ref f) = true ∧ Binds K fd ps [] ∧ ps.length = n
theorem Cal.imp {CX : CXT} {x : Str} {j n : Nat} {sp sp' : Sp} (c : Cal P w K mg base CX x j n sp) (h : ∀ vs H Q E, sp' vs H Q E → sp vs H Q E) : Cal P w K mg base CX x j n sp' := by
  obtain ⟨f, fd, ps, F, h1, h2, h3, h4⟩ := c.ex
  exact ⟨f, fd, ps, F.imp h, h1, h2, h3, h4⟩
variable {σ : St} {H : Hp} {Q : VK}
theorem e_cal (C : Ctx X P w K mg base N sc k) {CX : CXT} {x : Str} {j n : Nat} {sp : Sp} {E : XK} {e : Expr} {es : List Expr} {p pos : Pos} (c : Cal P w K mg base CX x j n sp) (hj : j ≤ k) (hx : Passes CX X E)
    (h : zA X (e :: es) σ H fun vs H1 => sp vs H1 Q E) (hg : gloB sc x = true := by decide +kernel) (hdb : (x == ("__debug__" : Str)) = false := by decide)
    (he : starEach (e :: es) X.env = (false, eval e X.env) :: starEach es X.env := by rfl) (hpl : (backTo pos (starEach es X.env)).any (·.1) = false := by rfl) : zE X (.Call (.Name x p) (e :: es) [] pos) σ H Q := by
  obtain ⟨f, fd, ps, F, h1, h2, h3, h4⟩ := c.ex
  obtain ⟨rfl, rfl, rfl, rfl, rfl, _, _, _, hr, _, _⟩ := C
  refine zE_of (pe_call (dvs := []) F (hr.mono hj) ?_ h1 h2 h3 .nil hx (zA_ok _) hdb he hpl) ?_
  · exact Ctx.gl ⟨rfl, rfl, rfl, rfl, rfl, ‹_›, ‹_›, ‹_›, hr, ‹_›, ‹_›⟩ hg
  · show zA X (e :: es) σ H fun vs H1 => sp (vs ++ []) H1 Q E
    simp only [List.append_nil]
    exact h
theorem e_cal0 (C : Ctx X P w K mg base N sc k) {x : Str} {j n : Nat} {sp : Sp} {e : Expr} {es : List Expr} {p pos : Pos} (c : Cal P w K mg base CX0 x j n sp) (hj : j ≤ k)
    (h : zA X (e :: es) σ H fun vs H1 => sp vs H1 Q E0) (hg : gloB sc x = true := by decide +kernel) (hdb : (x == ("__debug__" : Str)) = false := by decide)
    (he : starEach (e :: es) X.env = (false, eval e X.env) :: starEach es X.env := by rfl) (hpl : (backTo pos (starEach es X.env)).any (·.1) = false := by rfl) : zE X (.Call (.Name x p) (e :: es) [] pos) σ H Q := e_cal C c hj pass0 h hg hdb he hpl
/-- the body of a def: nothing leaves it -/
theorem fn_ok {x : Str} {st : Stmt} {dvs : List V} {kws : List (Str × V)} {f : Addr} {fd : FuncData} {ps : List Str} {sp : Sp}
    (F : FunD K x x (defArgs st) (defBody st) (defScope st) dvs kws f fd) (S : FnScope N ps (defScope st)) (len : ∀ vs H Q E, sp vs H Q E → vs.length = ps.length)
    (body : ∀ X vs H Q E, Ctx X P w K mg base N (defScope st) k → (∀ y, X.fn y = true) → sp vs H Q E → zB X (defBody st) (fun _ H' => Q .non H') Q (fun _ _ => False) (fun _ _ => False) (start N vs) H) : FnOk P w K mg base CX0 (k + 1) f fd ps sp :=
  F.ok S len fun cdv A outer s H vs Q E hr h => ⟨_, PSs.nox (zB_ok _), body _ vs H Q E ⟨rfl, rfl, rfl, rfl, rfl, rfl, rfl, rfl, hr, PassesOwn.never, S.nd⟩ (fun _ => rfl) h⟩
end
end Z

namespace Z
open PySem L2
abbrev Ex := Evl.Ex
abbrev tl (z : Str) : List Nat := z.cps.toList

/-! ### what is walked -/
/-- J gives n items while S stands; Y tells the i-th at the heap behind -/
structure Walk (J : It) (n : Nat) (S : Hp → Prop) (Y : Nat → V → Hp → Prop) : Prop where
  go : ∀ i H, i < n → S H → J.go i H
  stop : ∀ H, S H → J.stop n H
  yld : ∀ i H x H', i < n → S H → J.yld i H x H' → Ex H H' ∧ Y i x H'
theorem walk_list {K : PySem.W.Frag} (a : Addr) (xs : List V) : Walk (Itl K a) xs.length (fun H => SqL K H a xs) (fun i x _ => xs[i]? = some x) where
  go := fun i H hi h => ⟨xs, xs[i], h, by simp [hi]⟩
  stop := fun H h => ⟨xs, h, Nat.le_refl _⟩
  yld := fun i H x H' hi h y => by
    obtain ⟨e, y⟩ := y
    subst e
    exact ⟨Evl.Ex.refl _, y xs h⟩
theorem walk_tup {K : PySem.W.Frag} (a : Addr) (xs : List V) : Walk (Itt K a) xs.length (fun H => SqT K H a xs) (fun i x _ => xs[i]? = some x) where
  go := fun i H hi h => ⟨xs, xs[i], h, by simp [hi]⟩
  stop := fun H h => ⟨xs, h, Nat.le_refl _⟩
  yld := fun i H x H' hi h y => by
    obtain ⟨e, y⟩ := y
    subst e
    exact ⟨Evl.Ex.refl _, y xs h⟩
theorem walk_range (lo : Int) (n : Nat) : Walk (Itr lo n) n (fun _ => True) (fun i x _ => x = .int (lo + (i : Int))) where
  go := fun i H hi _ => hi
  stop := fun H _ => Nat.le_refl _
  yld := fun i H x H' hi _ y => by
    obtain ⟨e, y⟩ := y
    subst e
    exact ⟨Evl.Ex.refl _, y⟩
theorem walk_rangeC (lo c : Int) (n : Nat) : Walk (Itc lo c n) n (fun _ => True) (fun i x _ => x = .int (lo + (i : Int) * c)) where
  go := fun i H hi _ => hi
  stop := fun H _ => Nat.le_refl _
  yld := fun i H x H' hi _ y => by
    obtain ⟨e, y⟩ := y
    subst e
    exact ⟨Evl.Ex.refl _, y⟩
theorem walk_str (z : Str) : Walk (Its z) (tl z).length (fun _ => True) (fun i x _ => ∃ c, (tl z)[i]? = some c ∧ x = .str ⟨#[c]⟩) where
  go := fun i H hi _ => by show i < z.cps.size; simpa using hi
  stop := fun H _ => by show z.cps.size ≤ (tl z).length; simp
  yld := fun i H x H' hi _ y => by
    obtain ⟨e, c, y, ex⟩ := y
    subst e
    exact ⟨Evl.Ex.refl _, c, by simpa using y, ex⟩
theorem walk_enum {K : PySem.W.Frag} (a : Addr) (xs : List V) : Walk (Ite K a) xs.length (fun H => SqL K H a xs) (fun i x H' => ∃ T y, x = .ref T ∧ xs[i]? = some y ∧ H' T = some (.tup [.int (i : Int), y])) where
  go := fun i H hi h => ⟨xs, xs[i], h, by simp [hi]⟩
  stop := fun H h => ⟨xs, h, Nat.le_refl _⟩
  yld := fun i H x H' hi h y => by
    obtain ⟨T, z, e, hT, e2, y⟩ := y
    subst e2
    exact ⟨Evl.Ex.new hT, T, z, e, y xs h, upd_same⟩
theorem walk_zip {K : PySem.W.Frag} (a b : Addr) (xs ys : List V) : Walk (Itz K a b) (min xs.length ys.length) (fun H => SqL K H a xs ∧ SqL K H b ys) (fun i x H' => ∃ T y z, x = .ref T ∧ xs[i]? = some y ∧ ys[i]? = some z ∧ H' T = some (.tup [y, z])) where
  go := fun i H hi h => ⟨xs, ys, xs[i]'(by omega), ys[i]'(by omega), h.1, h.2, List.getElem?_eq_getElem _, List.getElem?_eq_getElem _⟩
  stop := fun H h => ⟨xs, ys, h.1, h.2, by omega⟩
  yld := fun i H x H' hi h y => by
    obtain ⟨T, z, u, e, hT, e2, y1, y2⟩ := y
    subst e2
    exact ⟨Evl.Ex.new hT, T, z, u, e, y1 xs h.1, y2 ys h.2, upd_same⟩
theorem walk_zipT {K : PySem.W.Frag} (a b : Addr) (xs ys : List V) : Walk (RZ.ItzT K a b) (min xs.length ys.length) (fun H => SqT K H a xs ∧ SqT K H b ys) (fun i x H' => ∃ T y z, x = .ref T ∧ xs[i]? = some y ∧ ys[i]? = some z ∧ H' T = some (.tup [y, z])) where
  go := fun i H hi h => ⟨xs, ys, xs[i]'(by omega), ys[i]'(by omega), h.1, h.2, List.getElem?_eq_getElem _, List.getElem?_eq_getElem _⟩
  stop := fun H h => ⟨xs, ys, h.1, h.2, by omega⟩
  yld := fun i H x H' hi h y => by
    obtain ⟨T, z, u, e, hT, e2, y1, y2⟩ := y
    subst e2
    exact ⟨Evl.Ex.new hT, T, z, u, e, y1 xs h.1, y2 ys h.2, upd_same⟩

/-! ### enumerate of a text -/
def ItS (x : Str) : It :=
  ⟨fun i _ => i < x.cps.size, fun i H v H' => ∃ T c, v = .ref T ∧ H T = none ∧ H' = upd H T (.tup [.int (i : Nat), .str ⟨#[c]⟩]) ∧ x.cps[i]? = some c, fun i _ => x.cps.size ≤ i⟩
theorem walk_enumS (z : Str) : Walk (ItS z) (tl z).length (fun _ => True) (fun i x H' => ∃ T c, x = .ref T ∧ (tl z)[i]? = some c ∧ H' T = some (.tup [.int (i : Int), .str ⟨#[c]⟩])) where
  go := fun i H hi _ => by show i < z.cps.size; simpa using hi
  stop := fun H _ => by show z.cps.size ≤ (tl z).length; simp
  yld := fun i H x H' hi h y => by
    obtain ⟨T, c, e, hT, e2, y⟩ := y
    subst e2
    exact ⟨Evl.Ex.new hT, T, c, e, by simpa using y, upd_same⟩
theorem turn_enumS {P : Program} {w : World} {K : PySem.W.Frag} {elts : List Expr} {kk : Nat} {tpos : Pos} (z : Str) (t : Tok) (e it : Addr) :
    Turn P w K (.Tuple elts kk tpos) (ItS z) [e, it] e (fun i h => (∃ old, IsEnum h e it ((i : Nat) : Int) old) ∧ h.IsStrIter it (strIterType z) z t i ∧ e ≠ it ∧ i ≤ z.cps.size) where
  mem := List.mem_cons_self
  obj := fun i h ⟨⟨old, he⟩, ⟨o, ho, hc, hd⟩, _⟩ b hb => by
    rcases List.mem_cons.mp hb with q | hb
    · exact ⟨_, by rw [q]; exact he, fun v x => by cases x⟩
    · rw [List.mem_singleton.mp hb]
      exact ⟨o, ho, fun v x => by rw [hd] at x; cases x⟩
  keep := fun i h h' ⟨⟨old, he⟩, ⟨o, ho, r⟩, hne⟩ k => ⟨⟨old, k e (by simp) _ he⟩, ⟨o, k it (by simp) o ho, r⟩, hne⟩
  item := fun X hP hw hK hc i ps s σ H E I hf ⟨⟨old, he⟩, hit, hne, hle⟩ hg => by
    cases hP; cases hw; cases hK
    have hel : e < s.heap.objs.size := Heap.lt_size he
    have hil : it < s.heap.objs.size := by obtain ⟨_, q, _⟩ := hit; exact Heap.lt_size q
    have hef : e ∉ [it] := fun q => hne (List.mem_singleton.mp q)
    refine wpAny_pyNext_enum_itemD (Draws.text (A := X.A.in1) (I.ok.hd hc) it z t) he hit hg hne hef fun x h' tk hP ho hit' hT hsz hk => ?_
    obtain ⟨c, u, hcx, rfl⟩ := hP
    refine ⟨_, rfl, wpAny_letOwnedTupleGo_enum (s := { s with heap := h', toks := tk + 1 }) ho fun h2 he' sb => ?_⟩
    have hT2 := (sb.2 _ (Nat.ne_of_gt hel)).trans hT
    have new : ObjOk X.prog X.w (upd H s.heap.objs.size (.tup [.int (i : Nat), .str ⟨#[c]⟩])) h2 s.heap.objs.size (.tup [.int (i : Nat), .str ⟨#[c]⟩]) :=
      ⟨by show 2 ≤ sizeLine; decide, _, .cons ⟨tk, rfl⟩ (.cons ⟨u, rfl⟩ .nil), ⟨_, hT2, rfl, _, rfl⟩⟩
    have I1 := I.turnedNew (t' := tk + 1) (ch := [e, it]) (fun b ob hb q => (sb.2 b (fun y => hb (by simp [y]))).trans (hk b ob (fun y => hb (by simp [y])) (fun y => hb (by simp [y])) q)) hf (Nat.le_refl _) new
    have e1 : ((i + 1 : Nat) : Int) = (i : Int) + 1 := by omega
    refine ⟨.ref s.heap.objs.size, _, I1, rfl, ⟨_, c, rfl, I.hok.fresh (Nat.le_refl _), rfl, hcx⟩, ⟨⟨.str ⟨#[c]⟩ u, by rw [e1]; exact he'⟩, ?_, hne, hg⟩, fun b hb => ?_⟩
    · obtain ⟨o, q, r⟩ := hit'
      exact ⟨o, (sb.2 it (Ne.symm hne)).trans q, r⟩
    · have hb' : b < s.heap.objs.size := by
        rcases List.mem_cons.mp hb with q | hb
        · rw [q]; exact hel
        · rw [List.mem_singleton.mp hb]; exact hil
      rw [upd_ne (Nat.ne_of_lt hb')]
      exact (hf b hb).1
  done := fun X hP hw hK hc i ps s σ H E I hf ⟨⟨old, he⟩, hit, hne, hle⟩ hg => by
    cases hP; cases hw; cases hK
    have hi : i = z.cps.size := Nat.le_antisymm hle hg
    obtain ⟨f0, f1, f2, f3, f4, f5⟩ := hf it (by simp)
    exact wpAny_pyNext_enum_endD (Draws.text (A := X.A.in1) (I.ok.hd hc) it z t) he (by rw [← hi]; exact hit) fun h' eb => ⟨rfl, I.turned (t' := s.toks) (fun b o hb q => eb b o hb q) f0 f1 f3 f4 f5⟩
  self := fun A i s Q E ⟨⟨_, he⟩, _⟩ h => wpAny_pyIter_enum he h
section
variable {X : Cx} {P : Program} {w : World} {K : PySem.W.Frag} {mg : Str → Option Value} {base : Heap} {N : List Str} {sc : Scope} {k : Nat}
variable {σ : St} {H : Hp} {nx bk ct : St → Hp → Prop} {rt : VK} {Q : VK} {R : It → Hp → Prop} {tg : Expr}
/-! ### iterables -/
theorem i_list {l : Expr} (h : zE X l σ H fun x H1 => ∃ a, x = .ref a ∧ (∃ xs, SqL X.K H1 a xs) ∧ R (Itl X.K a) H1) : zI X tg l σ H R := zI_of (pi_list (zE_ok l)) h
theorem i_tup {l : Expr} (h : zE X l σ H fun x H1 => ∃ a, x = .ref a ∧ (∃ xs, SqT X.K H1 a xs) ∧ R (Itt X.K a) H1) : zI X tg l σ H R := zI_of (pi_tup (zE_ok l)) h
theorem i_str {l : Expr} (h : zE X l σ H fun x H1 => ∃ z, x = .str z ∧ R (Its z) H1) : zI X tg l σ H R := zI_of (pi_str (zE_ok l)) h
theorem i_range1 {a : Expr} {p pos : Pos} (hg : Gl X "range") (hm : X.mg "range" = none) (h : zE X a σ H fun x H1 => ∃ j : Int, x = .int j ∧ -(2 ^ 62) ≤ j ∧ j < 2 ^ 62 ∧ R (Itr 0 j.toNat) H1)
    (hs : starEach [a] X.env = [(false, eval a X.env)] := by rfl) : zI X tg (.Call (.Name "range" p) [a] [] pos) σ H R :=
  zI_of (pi_range1 hg hm (zA_ok _) hs) (a_cons (zE_mono h fun v H1 ⟨j, e, h1, h2, h3⟩ => a_nil ⟨j, by rw [e], h1, h2, h3⟩) hs)
theorem i_range2 {a b : Expr} {p pos : Pos} (hg : Gl X "range") (hm : X.mg "range" = none) (h : zE X a σ H fun x H1 => zE X b σ H1 fun y H2 => ∃ i j : Int, x = .int i ∧ y = .int j ∧ (-(2 ^ 62) ≤ i ∧ i < 2 ^ 62 ∧ -(2 ^ 62) ≤ j ∧ j < 2 ^ 62) ∧ R (Itr i (j - i).toNat) H2)
    (hs : starEach [a, b] X.env = [(false, eval a X.env), (false, eval b X.env)] := by rfl) (hs2 : starEach [b] X.env = [(false, eval b X.env)] := by rfl) : zI X tg (.Call (.Name "range" p) [a, b] [] pos) σ H R :=
  zI_of (pi_range2 hg hm (zA_ok _) hs hs2) (a_cons (zE_mono h fun v H1 h1 => a_cons (zE_mono h1 fun u H2 ⟨i, j, e1, e2, h2, h3⟩ => a_nil ⟨i, j, by rw [e1, e2], h2, h3⟩) hs2) (hs.trans (by rw [hs2])))
theorem i_range3 {a b c : Expr} {p pos : Pos} (hp : PI X tg (.Call (.Name "range" p) [a, b, c] [] pos) (iRng3 (zA X [a, b, c]))) (h : zA X [a, b, c] σ H fun vs H1 => ∃ (i j c : Int) (n : Nat), vs = [.int i, .int j, .int c] ∧ RgC i j c n ∧ R (Itc i c n) H1) : zI X tg (.Call (.Name "range" p) [a, b, c] [] pos) σ H R := zI_of hp h
theorem i_enum {e : Expr} {elts : List Expr} {kk : Nat} {p pos tpos : Pos} (hg : Gl X "enumerate") (hm : X.mg "enumerate" = none) (h : zE X e σ H fun x H1 => ∃ a xs, x = .ref a ∧ SqL X.K H1 a xs ∧ R (Ite X.K a) H1)
    (hs : starEach [e] X.env = [(false, eval e X.env)] := by rfl) : zI X (.Tuple elts kk tpos) (.Call (.Name "enumerate" p) [e] [] pos) σ H R :=
  zI_of (pi_enum hg hm (zA_ok _) hs) (a_cons (zE_mono h fun v H1 ⟨a, xs, e, h1, h2⟩ => a_nil ⟨a, xs, by rw [e], h1, h2⟩) hs)
theorem pi_enumS {e : Expr} {elts : List Expr} {kk : Nat} {p pos tpos : Pos} (hg : Gl X "enumerate") (hm : X.mg "enumerate" = none) (hs : starEach [e] X.env = [(false, eval e X.env)] := by rfl) :
    PI X (.Tuple elts kk tpos) (.Call (.Name "enumerate" p) [e] [] pos) (fun σ H R => zA X [e] σ H fun vs H1 => ∃ z, vs = [.str z] ∧ R (ItS z) H1) := ⟨fun ps s σ H R I h => by
  refine PyProof.Rows.Call_ (ld_blt I hg hm PyProof.Rows.boot_enumerate (PyProof.Rows.callWith_type1 (thn ((zA_ok [e]).run pos ps s σ H _ I h) fun us s1 ⟨vs, H1, I1, r1, z, ex, q⟩ => ?_) hs rfl))
  subst ex
  obtain ⟨u, eu, t, rfl⟩ := vals1 r1
  subst eu
  refine call_enumerate_str fun h' he hit hsz hk => wpAny_pyIter_enum he ?_
  have I2 : Inv X ps σ H1 { s1 with heap := h' } := I1.kept (t' := s1.toks) hk
  refine ⟨s1.heap.objs.size + 1, [s1.heap.objs.size + 1, s1.heap.objs.size], _, _, H1, rfl, I2, turn_enumS z t (s1.heap.objs.size + 1) s1.heap.objs.size, ⟨⟨.none, he⟩, hit, Nat.succ_ne_self _, Nat.zero_le _⟩, fun b hb => ?_, q⟩
  have hle : s1.heap.objs.size ≤ b := by
    rcases List.mem_cons.mp hb with y | hb
    · exact Nat.le_trans (Nat.le_add_right _ 1) (Nat.le_of_eq y.symm)
    · exact Nat.le_of_eq (List.mem_singleton.mp hb).symm
  exact I1.fpOk hle (I1.hok.fresh hle)⟩
theorem i_enumS {e : Expr} {elts : List Expr} {kk : Nat} {p pos tpos : Pos} (hg : Gl X "enumerate") (hm : X.mg "enumerate" = none) (h : zE X e σ H fun x H1 => ∃ z, x = .str z ∧ R (ItS z) H1)
    (hs : starEach [e] X.env = [(false, eval e X.env)] := by rfl) : zI X (.Tuple elts kk tpos) (.Call (.Name "enumerate" p) [e] [] pos) σ H R :=
  zI_of (pi_enumS hg hm hs) (a_cons (zE_mono h fun v H1 ⟨a, e, h1⟩ => a_nil ⟨a, by rw [e], h1⟩) hs)
/-! ### for -/
/-- what is to be shown of a loop over n items: a word Pv between the turns (bk: what a break is to show) -/
structure Loop (X : Cx) (tg : Expr) (body : List Stmt) (nx bk : St → Hp → Prop) (rt : VK) (σ : St) (H : Hp) (n : Nat) (S : Hp → Prop) (Y : Nat → V → Hp → Prop) (Pv : Nat → St → Hp → Prop) : Prop where
  start : Pv 0 σ H
  src : ∀ i σ H, i ≤ n → Pv i σ H → S H
  turn : ∀ i x σ H H', i < n → Pv i σ H → Ex H H' → Y i x H' → zG X tg x σ H' fun σ2 H2 => zB X body (Pv (i + 1)) rt bk (Pv (i + 1)) σ2 H2
  done : ∀ σ H, Pv n σ H → nx σ H
theorem zB_bk {body : List Stmt} {bk' : St → Hp → Prop} (h : zB X body nx rt bk ct σ H) (k : ∀ σ H, bk σ H → bk' σ H) : zB X body nx rt bk' ct σ H := by
  unfold zB at h ⊢
  exact fun ps s I => thn (h ps s I) fun f s1 q => by
    cases f with
    | next => exact q
    | ret v => exact q
    | brk => obtain ⟨σ', H', I', q⟩ := q; exact ⟨σ', H', I', k _ _ q⟩
    | cont => exact q
theorem zG_mono {v : V} {Q Q' : St → Hp → Prop} (h : zG X tg v σ H Q) (k : ∀ σ' H', Q σ' H' → Q' σ' H') : zG X tg v σ H Q' := by
  unfold zG at h ⊢
  exact fun ps s u I r => thn (h ps s u I r) fun _ s1 ⟨σ1, H1, I1, q1⟩ => ⟨σ1, H1, I1, k _ _ q1⟩
theorem s_forB {it : Expr} {body : List Stmt} {pos : Pos} {bj : St → Hp → Prop} (C : Ctx X P w K mg base N sc k) (hb : ∀ σ H, bj σ H → nx σ H) (h : zI X tg it σ H fun J H1 => ∃ n S Y Pv, Walk J n S Y ∧ Loop X tg body nx bj rt σ H1 n S Y Pv)
    (hs : ∀ x, foldedSetIterable it X.env x = pure x := by intro _; rfl) : zS X (.For tg it body [] pos) nx rt bk ct σ H := by
  refine zS_of (ps_for C.own C.calm (zI_ok tg it) (zG_ok tg) (zB_ok body) hs) ?_
  show zI X tg it σ H _
  unfold zI at h ⊢
  intro ps s I
  refine thn (h ps s I) fun v s1 h1 => thn h1 fun itv s2 h2 => ?_
  obtain ⟨i0, fp, tn, J, H2, e, I2, T, st2, f2, n, S, Y, Pv, W, L⟩ := h2
  refine ⟨i0, fp, tn, J, H2, e, I2, T, st2, f2, fun i m σ H => m = n - i ∧ i ≤ n ∧ Pv i σ H, ⟨n, rfl, Nat.zero_le _, L.start⟩, ?_⟩
  rintro i m σ H ⟨rfl, hi, p⟩
  by_cases hlt : i < n
  · refine .inr ⟨W.go i H hlt (L.src i σ H hi p), Pv (i + 1), fun σ' H' p' => ⟨n - (i + 1), by omega, rfl, hlt, p'⟩, fun x H' y => ?_⟩
    obtain ⟨e1, y1⟩ := W.yld i H x H' hlt (L.src i σ H hi p) y
    exact zG_mono (L.turn i x σ H H' hlt p e1 y1) fun σ2 H3 q => zB_bk q hb
  · have e : i = n := by omega
    subst e
    exact .inl ⟨W.stop H (L.src i σ H hi p), L.done σ H p⟩
/-- no break within -/
theorem s_for {it : Expr} {body : List Stmt} {pos : Pos} (C : Ctx X P w K mg base N sc k) (h : zI X tg it σ H fun J H1 => ∃ n S Y Pv, Walk J n S Y ∧ Loop X tg body nx (fun _ _ => False) rt σ H1 n S Y Pv)
    (hs : ∀ x, foldedSetIterable it X.env x = pure x := by intro _; rfl) : zS X (.For tg it body [] pos) nx rt bk ct σ H := s_forB C (fun _ _ h => h.elim) h hs
/-- while: a word W m with a measure m; no break within -/
theorem s_while {c : Expr} {body : List Stmt} {pos : Pos} (C : Ctx X P w K mg base N sc k) (W : Nat → St → Hp → Prop) (m0 : Nat) (h0 : W m0 σ H)
    (hs : ∀ m σ H, W m σ H → zT X c σ H fun b H1 => if b = true then zB X body (fun σ' H' => ∃ m', m' < m ∧ W m' σ' H') rt (fun _ _ => False) (fun σ' H' => ∃ m', m' < m ∧ W m' σ' H') σ H1 else nx σ H1) : zS X (.While c body [] pos) nx rt bk ct σ H :=
  zS_of (ps_while C.own (zT_ok c) (zB_ok body)) ⟨W, ⟨m0, h0⟩, fun m σ H w => zT_mono (hs m σ H w) fun b H1 h => by
    cases b with
    | false => exact h
    | true => exact ⟨_, fun σ' H' q => q, zB_bk h fun _ _ z => z.elim⟩⟩
/-- targets of a tuple -/
def zGs (X : Cx) (ts : List Expr) : TGs := fun vs σ H Q => ∀ ps s us, Inv X ps σ H s → Vals vs us → wpAny (model X.prog X.w) X.A (assignInOrder ((assignEach ts X.env).map (·.2)) us) (fun _ s' => ∃ σ' H', Inv X ps σ' H' s' ∧ Q σ' H') X.xe s
theorem zGs_ok (ts : List Expr) : PGs X ts (zGs X ts) := ⟨fun ps s σ H vs us Q I r h => h ps s us I r⟩
theorem zGs_of {ts : List Expr} {t : TGs} (g : PGs X ts t) {vs : List V} {QG : St → Hp → Prop} (h : t vs σ H QG) : zGs X ts vs σ H QG := fun ps s us I r => g.run ps s σ H vs us QG I r h
theorem gs_nil {QG : St → Hp → Prop} (h : QG σ H) : zGs X [] [] σ H QG := zGs_of pgs_nil ⟨rfl, h⟩
theorem gs_cons {e : Expr} {es : List Expr} {v : V} {vs : List V} {QG : St → Hp → Prop} (h : zG X e v σ H fun σ' H' => zGs X es vs σ' H' QG)
    (hs : (assignEach (e :: es) X.env).map (·.2) = assign e X.env :: (assignEach es X.env).map (·.2) := by rfl) : zGs X (e :: es) (v :: vs) σ H QG := zGs_of (pgs_cons (zG_ok e) (zGs_ok es) hs) ⟨v, vs, rfl, h⟩
theorem g_tup {es : List Expr} {kk : Nat} {pos : Pos} {a : Addr} {vs : List V} {QG : St → Hp → Prop} (C : Ctx X P w K mg base N sc k) (ha : SqT X.K H a vs) (h : zGs X es vs σ H QG)
    (hn : (assignEach es X.env).length = vs.length := by rfl) (hst : (assignEach es X.env).findIdx? (·.1) = none := by rfl) : zG X (.Tuple es kk pos) (.ref a) σ H QG :=
  zG_of (pg_tup C.calm (zGs_ok es) rfl hst) ⟨a, vs, rfl, ha, hn.symm, h⟩
end
end Z

namespace Z
open PySem L2
theorem relabel_eq {X : Cx} {sc scope : Scope} (h : X.env.scope = sc) : relabel scope X.env = relS scope sc := by
  subst h
  rfl
section
variable {X : Cx} {P : Program} {w : World} {K : PySem.W.Frag} {mg : Str → Option Value} {base : Heap} {N : List Str} {sc : Scope} {k : Nat}
variable {σ : St} {H : Hp} {nx bk ct : St → Hp → Prop} {rt : VK} {Q : VK} {tg : Expr}
theorem Ctx.blk (C : Ctx X P w K mg base N sc k) (s : Shared) (H : Hp) (scope : Scope) (c0 : Addr) (cl : List (Str × Addr)) (fp : List Addr) : Ctx (X.blk s H scope (compEnvC scope cl c0 X.env) fp) P w K mg base N (relS scope sc) k :=
  ⟨C.prog, C.wld, C.frg, C.mgl, C.bas, C.nms, relabel_eq C.scp, C.calm, C.room, PassesOwn.never, C.nd⟩
/-- a block's body, whatever its context -/
def zGb (X : Cx) (scope : Scope) (tg : Expr) : TG := fun v σ H Q => ∀ s H0 c0 cl fp, zG (X.blk s H0 scope (compEnvC scope cl c0 X.env) fp) tg v σ H Q
def zTb (X : Cx) (scope : Scope) (ifs : List Expr) : TT := fun σ H Q => ∀ s H0 c0 cl fp, zTs (X.blk s H0 scope (compEnvC scope cl c0 X.env) fp) ifs σ H Q
def zEb (X : Cx) (scope : Scope) (e : Expr) : TE := fun σ H Q => ∀ s H0 c0 cl fp, zE (X.blk s H0 scope (compEnvC scope cl c0 X.env) fp) e σ H Q
theorem zI_mono {it : Expr} {R R' : It → Hp → Prop} (h : zI X tg it σ H R) (q : ∀ J H', R J H' → R' J H') : zI X tg it σ H R' := by
  unfold zI at h ⊢
  exact fun ps s I => thn (h ps s I) fun v s1 h1 => thn h1 fun u s2 ⟨i0, fp, tn, J, H2, e, I2, T, st2, f2, r⟩ => ⟨i0, fp, tn, J, H2, e, I2, T, st2, f2, q J H2 r⟩
theorem ts_nil {QT : Bool → Hp → Prop} (h : QT true H) : zTs X [] σ H QT := zTs_of pts_nil h
theorem ts_one {c : Expr} {QT : Bool → Hp → Prop} (h : zT X c σ H QT) : zTs X [c] σ H QT := zTs_of (pts_one (zT_ok c)) h
/-- all but D stands -/
def Xb (D : Addr) (H H' : Hp) : Prop := ∀ b o, b ≠ D → H b = some o → H' b = some o
theorem Xb.of {D : Addr} {H H' : Hp} (e : Ex H H') : Xb D H H' := fun b o _ h => e b o h
theorem Xb.upd {D : Addr} {H : Hp} {o : HO} : Xb D H (L2.upd H D o) := fun b u hb h => by rw [upd_ne hb]; exact h
theorem Xb.ex {D : Addr} {H0 H H' : Hp} (e : Ex H0 H) (n : H0 D = none) (x : Xb D H H') : Ex H0 H' := fun b o h => x b o (ne_of_none h n) (e b o h)
/-- what is to be shown of a comprehension over n items: Acc, the list made so far at D, between the turns -/
structure Comp (X : Cx) (tg elt : Expr) (ifs : List Expr) (scope : Scope) (own : List Nat) (σ : St) (H : Hp) (n : Nat) (S : Hp → Prop) (Y : Nat → V → Hp → Prop) (Acc : Addr → Nat → List V → Hp → Prop) : Prop where
  small : n ≤ 100000
  start : ∀ D H', H D = none → Ex H H' → Acc D 0 [] H'
  src : ∀ H', Ex H H' → S H'
  keep : ∀ D i ys H' H'', Xb D H' H'' → Acc D i ys H' → Acc D i ys H''
  len : ∀ D i ys H', Acc D i ys H' → ys.length ≤ i
  turn : ∀ D i x ys H', i < n → H D = none → Ex H H' → H' D = some (.lst ys) → Acc D i ys H' → Y i x H' → zGb X scope tg x (wipe σ own) H' fun σ2 H2 => wipe σ2 own = wipe σ own ∧ Ex H' H2 ∧
    zTb X scope ifs σ2 H2 fun b H3 => Ex H' H3 ∧ if b = true then zEb X scope elt σ2 H3 fun y H4 => Ex H' H4 ∧ Acc D (i + 1) (ys ++ [y]) H4 else Acc D (i + 1) ys H3
theorem zGb_mono {scope : Scope} {v : V} {Q Q' : St → Hp → Prop} (h : zGb X scope tg v σ H Q) (k : ∀ σ' H', Q σ' H' → Q' σ' H') : zGb X scope tg v σ H Q' := fun s H0 c0 cl fp => by
  have h := h s H0 c0 cl fp
  unfold zG at h ⊢
  exact fun ps s u I r => thn (h ps s u I r) fun _ s1 ⟨σ1, H1, I1, q1⟩ => ⟨σ1, H1, I1, k _ _ q1⟩
theorem zTb_mono {scope : Scope} {ifs : List Expr} {Q Q' : Bool → Hp → Prop} (h : zTb X scope ifs σ H Q) (k : ∀ b H', Q b H' → Q' b H') : zTb X scope ifs σ H Q' := fun s H0 c0 cl fp => by
  have h := h s H0 c0 cl fp
  unfold zTs at h ⊢
  exact fun ps s I => thn (h ps s I) fun _ s1 ⟨H1, I1, q1⟩ => ⟨H1, I1, k _ _ q1⟩
theorem zEb_mono {scope : Scope} {e : Expr} {Q Q' : VK} (h : zEb X scope e σ H Q) (k : ∀ b H', Q b H' → Q' b H') : zEb X scope e σ H Q' := fun s H0 c0 cl fp => zE_mono (h s H0 c0 cl fp) k
theorem small_lt {n : Nat} (h : n ≤ 100000) : n < sizeLine := Nat.lt_of_le_of_lt h (by decide)
theorem lc_run {J : It} {H1 : Hp} {n : Nat} {S : Hp → Prop} {Y : Nat → V → Hp → Prop} {elt : Expr} {ifs : List Expr} {scope : Scope} {own : List Nat} {Acc : Addr → Nat → List V → Hp → Prop} (W : Walk J n S Y) (L : Comp X tg elt ifs scope own σ H1 n S Y Acc)
    {Qd : V → Hp → Prop} (hd : ∀ D ys H', H1 D = none → Ex H1 H' → H' D = some (.lst ys) → Acc D n ys H' → Qd (.ref D) H') (D : Addr) (hD : H1 D = none) : ∃ W : Nat → Nat → Hp → Prop, (∃ m, W 0 m (upd H1 D (.lst []))) ∧ ∀ i m H, W i m H →
  (J.stop i H ∧ Qd (.ref D) H) ∨ (J.go i H ∧ ∃ Nx : Hp → Prop, (∀ H', Nx H' → ∃ m', m' < m ∧ W (i + 1) m' H') ∧ ∀ x H', J.yld i H x H' → zGb X scope tg x (wipe σ own) H' fun σ2 H2 => wipe σ2 own = wipe σ own ∧ zTb X scope ifs σ2 H2 fun b H3 =>
    if b = true then zEb X scope elt σ2 H3 fun y H4 => ∃ acc, H4 D = some (.lst acc) ∧ acc.length < sizeLine ∧ Nx (upd H4 D (.lst (acc ++ [y]))) else Nx H3) := by
  refine ⟨fun i m H => m = n - i ∧ i ≤ n ∧ ∃ ys, H D = some (.lst ys) ∧ Ex H1 H ∧ Acc D i ys H, ⟨n, rfl, Nat.zero_le _, [], upd_same, Evl.Ex.new hD, L.start D _ hD (Evl.Ex.new hD)⟩, ?_⟩
  rintro i m H ⟨rfl, hi, ys, h1, h2, h3⟩
  by_cases hlt : i < n
  · refine .inr ⟨W.go i H hlt (L.src H h2), fun H' => ∃ ys, H' D = some (.lst ys) ∧ Ex H1 H' ∧ Acc D (i + 1) ys H', fun H' ⟨ys, a, b, c⟩ => ⟨n - (i + 1), by omega, rfl, hlt, ys, a, b, c⟩, fun x H' y => ?_⟩
    obtain ⟨e1, y1⟩ := W.yld i H x H' hlt (L.src H h2) y
    refine zGb_mono (L.turn D i x ys H' hlt hD (h2.trans e1) (e1 _ _ h1) (L.keep D i ys H H' (.of e1) h3) y1) fun σ2 H2 ⟨w1, e2, h4⟩ => ⟨w1, zTb_mono h4 fun b H3 ⟨e3, h5⟩ => ?_⟩
    cases b with
    | false => exact ⟨ys, e3 _ _ (e1 _ _ h1), (h2.trans e1).trans e3, h5⟩
    | true =>
      refine zEb_mono (show zEb X scope elt σ2 H3 _ from h5) fun v H4 ⟨e4, h6⟩ => ⟨ys, e4 _ _ (e1 _ _ h1), small_lt ?_, _, upd_same, Xb.ex ((h2.trans e1).trans e4) hD .upd, L.keep D _ _ _ _ .upd h6⟩
      have := L.len D i ys H h3
      have := L.small
      omega
  · have e : i = n := by omega
    subst e
    exact .inl ⟨W.stop H (L.src H h2), hd D ys H hD h2 h1 h3⟩
/-- [elt for tg in it if ..] -/
theorem e_lc {elt it : Expr} {ifs : List Expr} {scope : Scope} {own : List (Str × Nat)} {pos : Pos} (C : Ctx X P w K mg base N sc k) (hb : blkC N sc scope own = true)
    (h : zI X tg it σ H fun J H1 => ∃ n S Y Acc, Walk J n S Y ∧ Comp X tg elt ifs scope (own.map (·.2)) σ H1 n S Y Acc ∧ ∀ D ys H', H1 D = none → Ex H1 H' → H' D = some (.lst ys) → Acc D n ys H' → Q (.ref D) H')
    (hs : ∀ x, foldedSetIterable it X.env x = pure x := by intro _; rfl) : zE X (.ListComp elt [⟨tg, it, ifs, 0⟩] scope pos) σ H Q := by
  refine zE_of (pe_lc (own := own) C.calm (by rw [C.nms]; exact C.nd) (zI_ok tg it) (by rw [C.nms, C.scp]; exact blkOk_by hb) (g := zGb X scope tg) (tt := zTb X scope ifs) (te := zEb X scope elt)
    (fun s H0 c0 cl fp => ⟨fun ps s' σ H v u Q I r q => (zG_ok tg).run ps s' σ H v u Q I r (q s H0 c0 cl fp)⟩) (fun s H0 c0 cl fp => ⟨fun ps s' σ H Q I q => (zTs_ok ifs).run ps s' σ H Q I (q s H0 c0 cl fp)⟩)
    (fun s H0 c0 cl fp => ⟨fun ps s' σ H Q I q => (zE_ok elt).run ps s' σ H Q I (q s H0 c0 cl fp)⟩) hs) ?_
  show zI X tg it σ H _
  refine zI_mono h fun J H1 ⟨n, S, Y, Acc, W, L, hd⟩ D hD => lc_run W L hd D hD
/-- y = [elt for tg in it if ..], y a local -/
theorem s_lc {i : Nat} {y : Str} {py : Pos} {elt it : Expr} {ifs : List Expr} {scope : Scope} {own : List (Str × Nat)} {pos spos : Pos} (C : Ctx X P w K mg base N sc k) (hb : blkC N sc scope own = true) (hy : N[i]? = some y) (hyl : lclB sc y = true)
    (hk : sc.kind = .function) (hl : (py.line == pos.line && spos.line == spos.line) = true) (ha : (scope.names.any fun (n, k) => n == y && (k == .local || k == .cell)) = false)
    (h : zI X tg it σ H fun J H1 => ∃ n S Y Acc, Walk J n S Y ∧ Comp X tg elt ifs scope (own.map (·.2)) σ H1 n S Y Acc ∧ ∀ D' ys H', H1 D' = none → Ex H1 H' → H' D' = some (.lst ys) → Acc D' n ys H' → nx (σ.set i (some (.ref D'))) H')
    (hs : ∀ x, foldedSetIterable it X.env x = pure x := by intro _; rfl) : zS X (.Assign [.Name y py] (.ListComp elt [⟨tg, it, ifs, 0⟩] scope pos) spos) nx rt bk ct σ H := by
  have hsw : swapsWith (.ListComp elt [⟨tg, it, ifs, 0⟩] scope pos) (some (.Name y py)) spos.line X.env = pure true := sw_true (by rw [C.scp]; exact hk) (C.lcl hyl) (by simpa using hl) ha
  refine zS_of (ps_setLc (own := own) (i := i) C.calm (by rw [C.nms]; exact C.nd) (by rw [C.nms]; exact hy) (C.lcl hyl) hsw (zI_ok tg it) (by rw [C.nms, C.scp]; exact blkOk_by hb) (g := zGb X scope tg) (tt := zTb X scope ifs) (te := zEb X scope elt)
    (fun s H0 c0 cl fp => ⟨fun ps s' σ H v u Q I r q => (zG_ok tg).run ps s' σ H v u Q I r (q s H0 c0 cl fp)⟩) (fun s H0 c0 cl fp => ⟨fun ps s' σ H Q I q => (zTs_ok ifs).run ps s' σ H Q I (q s H0 c0 cl fp)⟩)
    (fun s H0 c0 cl fp => ⟨fun ps s' σ H Q I q => (zE_ok elt).run ps s' σ H Q I (q s H0 c0 cl fp)⟩) hs) ?_
  show zI X tg it σ H _
  refine zI_mono h fun J H1 ⟨n, S, Y, Acc, W, L, hd⟩ D0 hD => lc_run (Qd := fun x H1 => gName i x σ H1 nx) W L hd D0 hD
/-! ### a block's parts -/
theorem gb_intro {scope : Scope} {v : V} {QG : St → Hp → Prop} (C : Ctx X P w K mg base N sc k) (h : ∀ X1, Ctx X1 P w K mg base N (relS scope sc) k → zG X1 tg v σ H QG) : zGb X scope tg v σ H QG := fun s H0 c0 cl fp => h _ (C.blk s H0 scope c0 cl fp)
theorem tb_intro {scope : Scope} {ifs : List Expr} {QT : Bool → Hp → Prop} (C : Ctx X P w K mg base N sc k) (h : ∀ X1, Ctx X1 P w K mg base N (relS scope sc) k → zTs X1 ifs σ H QT) : zTb X scope ifs σ H QT := fun s H0 c0 cl fp => h _ (C.blk s H0 scope c0 cl fp)
theorem eb_intro {scope : Scope} {e : Expr} (C : Ctx X P w K mg base N sc k) (h : ∀ X1, Ctx X1 P w K mg base N (relS scope sc) k → zE X1 e σ H Q) : zEb X scope e σ H Q := fun s H0 c0 cl fp => h _ (C.blk s H0 scope c0 cl fp)
/-- [elt for x in it], each item's value known by its turn -/
theorem comp_map {x : Str} {j : Nat} {px : Pos} {elt : Expr} {scope : Scope} {own : List Nat} {n : Nat} {S : Hp → Prop} {Y : Nat → V → Hp → Prop} (C : Ctx X P w K mg base N sc k) (g : Nat → V) (hn : n ≤ 100000) (hsrc : ∀ H', Ex H H' → S H')
    (h1 : N[j]? = some x) (h2 : lclB (relS scope sc) x = true) (hw : ∀ v, wipe ((wipe σ own).set j (some v)) own = wipe σ own)
    (he : ∀ i v H', i < n → Ex H H' → Y i v H' → ∀ X1, Ctx X1 P w K mg base N (relS scope sc) k → zE X1 elt ((wipe σ own).set j (some v)) H' fun y H4 => Ex H' H4 ∧ y = g i) :
    Comp X (.Name x px) elt [] scope own σ H n S Y (fun _ i ys _ => ys = (List.range i).map g) where
  small := hn
  start := fun _ _ _ _ => rfl
  src := hsrc
  keep := fun _ _ _ _ _ _ h => h
  len := fun _ i ys _ h => by rw [h]; simp
  turn := fun D i v ys H' hi hD e1 hl ha hy => gb_intro C fun X1 C1 => g_name (C1.ns h1 (by unfold locB; unfold lclB at h2; rw [h2]; rfl) (.inr h2)) ⟨hw v, Evl.Ex.refl _, fun _ _ _ _ _ => ts_nil ⟨Evl.Ex.refl _, if_pos rfl ▸ eb_intro C fun X2 C2 =>
    zE_mono (he i v H' hi e1 hy X2 C2) fun y H4 ⟨e4, q⟩ => ⟨e4, by rw [ha, q, List.range_succ, List.map_append]; rfl⟩⟩⟩
/-- [elt for x in it if c] -/
theorem comp_filter {x : Str} {j : Nat} {px : Pos} {elt c : Expr} {scope : Scope} {own : List Nat} {n : Nat} {S : Hp → Prop} {Y : Nat → V → Hp → Prop} (C : Ctx X P w K mg base N sc k) (f : Nat → Bool) (g : Nat → V) (hn : n ≤ 100000) (hsrc : ∀ H', Ex H H' → S H')
    (h1 : N[j]? = some x) (h2 : lclB (relS scope sc) x = true) (hw : ∀ v, wipe ((wipe σ own).set j (some v)) own = wipe σ own)
    (hc : ∀ i v H', i < n → Ex H H' → Y i v H' → ∀ X1, Ctx X1 P w K mg base N (relS scope sc) k → zT X1 c ((wipe σ own).set j (some v)) H' fun b H3 => Ex H' H3 ∧ b = f i)
    (he : ∀ i v H', i < n → Ex H H' → Y i v H' → ∀ H3, Ex H' H3 → f i = true → ∀ X1, Ctx X1 P w K mg base N (relS scope sc) k → zE X1 elt ((wipe σ own).set j (some v)) H3 fun y H4 => Ex H3 H4 ∧ y = g i) :
    Comp X (.Name x px) elt [c] scope own σ H n S Y (fun _ i ys _ => ys = ((List.range i).filter f).map g) where
  small := hn
  start := fun _ _ _ _ => rfl
  src := hsrc
  keep := fun _ _ _ _ _ _ h => h
  len := fun _ i ys _ h => by rw [h, List.length_map]; exact Nat.le_trans (List.length_filter_le _ _) (by simp)
  turn := fun D i v ys H' hi hD e1 hl ha hy => gb_intro C fun X1 C1 => g_name (C1.ns h1 (by unfold locB; unfold lclB at h2; rw [h2]; rfl) (.inr h2)) ⟨hw v, Evl.Ex.refl _, tb_intro C fun X2 C2 => ts_one (zT_mono (hc i v H' hi e1 hy X2 C2) fun b H3 ⟨e3, hb⟩ => ⟨e3, by
    subst hb
    cases hf : f i with
    | false =>
      show ys = _
      rw [ha, List.range_succ, List.filter_append, List.map_append, List.filter_cons, hf]
      simp
    | true =>
      show zEb X scope elt _ H3 _
      exact eb_intro C fun X3 C3 => zE_mono (he i v H' hi e1 hy H3 e3 hf X3 C3) fun y H4 ⟨e4, q⟩ => ⟨e3.trans e4, by
        rw [ha, q, List.range_succ, List.filter_append, List.map_append, List.filter_cons, hf]
        simp⟩⟩)⟩
/-- the same, whatever the target: st i is what the names are in turn i -/
theorem comp_mapG {elt : Expr} {scope : Scope} {own : List Nat} {n : Nat} {S : Hp → Prop} {Y : Nat → V → Hp → Prop} (C : Ctx X P w K mg base N sc k) (st : Nat → V → St) (g : Nat → V) (hn : n ≤ 100000) (hsrc : ∀ H', Ex H H' → S H')
    (hg : ∀ i v H', i < n → Ex H H' → Y i v H' → ∀ X1, Ctx X1 P w K mg base N (relS scope sc) k → zG X1 tg v (wipe σ own) H' fun σ2 H2 => σ2 = st i v ∧ wipe (st i v) own = wipe σ own ∧ H2 = H')
    (he : ∀ i v H', i < n → Ex H H' → Y i v H' → ∀ X1, Ctx X1 P w K mg base N (relS scope sc) k → zE X1 elt (st i v) H' fun y H4 => Ex H' H4 ∧ y = g i) :
    Comp X tg elt [] scope own σ H n S Y (fun _ i ys _ => ys = (List.range i).map g) where
  small := hn
  start := fun _ _ _ _ => rfl
  src := hsrc
  keep := fun _ _ _ _ _ _ h => h
  len := fun _ i ys _ h => by rw [h]; simp
  turn := fun D i v ys H' hi hD e1 hl ha hy => gb_intro C fun X1 C1 => zG_mono (hg i v H' hi e1 hy X1 C1) fun σ2 H2 ⟨q1, q2, q3⟩ => by
    subst q1; subst q3
    exact ⟨q2, Evl.Ex.refl _, fun _ _ _ _ _ => ts_nil ⟨Evl.Ex.refl _, if_pos rfl ▸ eb_intro C fun X2 C2 => zE_mono (he i v _ hi e1 hy X2 C2) fun y H4 ⟨e4, q⟩ => ⟨e4, by rw [ha, q, List.range_succ, List.map_append]; rfl⟩⟩⟩
theorem comp_filterG {elt c : Expr} {scope : Scope} {own : List Nat} {n : Nat} {S : Hp → Prop} {Y : Nat → V → Hp → Prop} (C : Ctx X P w K mg base N sc k) (st : Nat → V → St) (f : Nat → Bool) (g : Nat → V) (hn : n ≤ 100000) (hsrc : ∀ H', Ex H H' → S H')
    (hg : ∀ i v H', i < n → Ex H H' → Y i v H' → ∀ X1, Ctx X1 P w K mg base N (relS scope sc) k → zG X1 tg v (wipe σ own) H' fun σ2 H2 => σ2 = st i v ∧ wipe (st i v) own = wipe σ own ∧ H2 = H')
    (hc : ∀ i v H', i < n → Ex H H' → Y i v H' → ∀ X1, Ctx X1 P w K mg base N (relS scope sc) k → zT X1 c (st i v) H' fun b H3 => Ex H' H3 ∧ b = f i)
    (he : ∀ i v H', i < n → Ex H H' → Y i v H' → ∀ H3, Ex H' H3 → f i = true → ∀ X1, Ctx X1 P w K mg base N (relS scope sc) k → zE X1 elt (st i v) H3 fun y H4 => Ex H3 H4 ∧ y = g i) :
    Comp X tg elt [c] scope own σ H n S Y (fun _ i ys _ => ys = ((List.range i).filter f).map g) where
  small := hn
  start := fun _ _ _ _ => rfl
  src := hsrc
  keep := fun _ _ _ _ _ _ h => h
  len := fun _ i ys _ h => by rw [h, List.length_map]; exact Nat.le_trans (List.length_filter_le _ _) (by simp)
  turn := fun D i v ys H' hi hD e1 hl ha hy => gb_intro C fun X1 C1 => zG_mono (hg i v H' hi e1 hy X1 C1) fun σ2 H2 ⟨q1, q2, q3⟩ => by
    subst q1; subst q3
    exact ⟨q2, Evl.Ex.refl _, tb_intro C fun X2 C2 => ts_one (zT_mono (hc i v _ hi e1 hy X2 C2) fun b H3 ⟨e3, hb⟩ => ⟨e3, by
      subst hb
      cases hf : f i with
      | false =>
        show ys = _
        rw [ha, List.range_succ, List.filter_append, List.map_append, List.filter_cons, hf]
        simp
      | true =>
        show zEb X scope elt _ H3 _
        exact eb_intro C fun X3 C3 => zE_mono (he i v _ hi e1 hy H3 e3 hf X3 C3) fun y H4 ⟨e4, q⟩ => ⟨e3.trans e4, by
          rw [ha, q, List.range_succ, List.filter_append, List.map_append, List.filter_cons, hf]
          simp⟩⟩)⟩
end
end Z

namespace Z
open PySem L2
/-! ### heaps: what stands goes on -/
theorem ex_l {K : PySem.W.Frag} {H H' : Hp} {a : Addr} {xs : List V} (e : Ex H H') (h : SqL K H a xs) : SqL K H' a xs := Evl.ex_l e h
theorem ex_t {K : PySem.W.Frag} {H H' : Hp} {a : Addr} {xs : List V} (e : Ex H H') (h : SqT K H a xs) : SqT K H' a xs := Evl.ex_t e h
theorem xb_l {K : PySem.W.Frag} {H H' : Hp} {D a : Addr} {xs : List V} (x : Xb D H H') (hn : ∀ u, H D = some u → D ≠ a) (hD : ∃ u, H D = some u) (h : SqL K H a xs) : SqL K H' a xs := by
  obtain ⟨u, hu⟩ := hD
  have hne := (hn u hu).symm
  rcases h with (h | ⟨o, h⟩) | h
  · exact .inl (.inl (x a _ hne h))
  · exact .inl (.inr ⟨o, x a _ hne h⟩)
  · exact .inr h
theorem ex_g {H H' : Hp} {a : Addr} {o : HO} (e : Ex H H') (h : H a = some o) : H' a = some o := e a o h
theorem ex_n {H H' : Hp} {a : Addr} (e : Ex H H') (h : H' a = none) : H a = none := Evl.fresh_back e h
theorem get_ne {H : Hp} {a b : Addr} {o u : HO} (h : b ≠ a) (e : H b = some u) : upd H a o b = some u := by rw [upd_ne h]; exact e
theorem len_tl (z : Str) : z.length = (tl z).length := by simp [Str.length]
theorem lenI_tl (z : Str) : (z.length : Int) = ((tl z).length : Int) := by rw [len_tl]
theorem ext_tl {x y : Str} (h : tl x = tl y) : x = y := TL.ext_tl h
theorem tl_app (x y : Str) : tl (x ++ y) = tl x ++ tl y := TL.tl_append x y
theorem tl_one (c : Nat) : tl ⟨#[c]⟩ = [c] := rfl
theorem sz_le {n : Nat} (h : n ≤ 100000) : n ≤ sizeLine := Nat.le_trans h (by decide)
theorem cutV_take (xs : List V) (n : Nat) : cutV xs none (some (n : Int)) = xs.take n := by
  unfold cutV
  rw [HT.sIx_none, HT.sIx_nat, List.drop_zero, Nat.sub_zero]
  by_cases h : n ≤ xs.length
  · rw [Nat.min_eq_left h]
  · rw [Nat.min_eq_right (by omega), List.take_of_length_le (Nat.le_refl _), List.take_of_length_le (by omega)]
theorem cutV_drop (xs : List V) (n : Nat) : cutV xs (some (n : Int)) none = xs.drop n := by
  unfold cutV
  rw [HT.sIx_none, HT.sIx_nat]
  by_cases h : n ≤ xs.length
  · rw [Nat.min_eq_left h, List.take_of_length_le (by simp)]
  · rw [Nat.min_eq_right (by omega), List.drop_of_length_le (Nat.le_refl _), List.drop_of_length_le (by omega)]; simp
theorem cutS_take (z : Str) (n : Nat) : tl (cutS z none (some (n : Int))) = (tl z).take n := by
  show ((tl z).drop _).take _ = _
  rw [HT.sIx_none, HT.sIx_nat, List.drop_zero, Nat.sub_zero, len_tl]
  by_cases h : n ≤ (tl z).length
  · rw [Nat.min_eq_left h]
  · rw [Nat.min_eq_right (by omega), List.take_of_length_le (Nat.le_refl _), List.take_of_length_le (by omega)]
theorem cutS_drop (z : Str) (n : Nat) : tl (cutS z (some (n : Int)) none) = (tl z).drop n := by
  show ((tl z).drop _).take _ = _
  rw [HT.sIx_none, HT.sIx_nat, len_tl]
  by_cases h : n ≤ (tl z).length
  · rw [Nat.min_eq_left h, List.take_of_length_le (by simp)]
  · rw [Nat.min_eq_right (by omega), List.drop_of_length_le (Nat.le_refl _), List.drop_of_length_le (by omega)]; simp
theorem cutS_mid (z : Str) (a b : Nat) (h : b ≤ (tl z).length) : tl (cutS z (some (a : Int)) (some (b : Int))) = ((tl z).drop a).take (b - a) := by
  show ((tl z).drop _).take _ = _
  rw [HT.sIx_nat, HT.sIx_nat, len_tl, Nat.min_eq_left h]
  by_cases h2 : a ≤ (tl z).length
  · rw [Nat.min_eq_left h2]
  · rw [Nat.min_eq_right (by omega), show b - (tl z).length = 0 by omega, show b - a = 0 by omega]; simp
theorem mk_tl (z : Str) : (⟨(tl z).toArray⟩ : Str) = z := ext_tl rfl
section
variable {X : Cx} {P : Program} {w : World} {K : PySem.W.Frag} {mg : Str → Option Value} {base : Heap} {N : List Str} {sc : Scope} {k : Nat}
variable {σ : St} {H : Hp} {nx bk ct : St → Hp → Prop} {rt : VK} {Q : VK} {tg : Expr} {i j : Int} {x y : V} {a b : Expr} {p pos : Pos}
/-! ### the goal's kind (for the steps) -/
theorem idE {e : Expr} (h : zE X e σ H Q) : zE X e σ H Q := h
theorem idT {e : Expr} {QT : Bool → Hp → Prop} (h : zT X e σ H QT) : zT X e σ H QT := h
theorem idW {e : Expr} {QT : Bool → Hp → Prop} (h : zW X e σ H QT) : zW X e σ H QT := h
theorem idA {es : List Expr} {QA : List V → Hp → Prop} (h : zA X es σ H QA) : zA X es σ H QA := h
theorem idS {st : Stmt} (h : zS X st nx rt bk ct σ H) : zS X st nx rt bk ct σ H := h
theorem idB {st : List Stmt} (h : zB X st nx rt bk ct σ H) : zB X st nx rt bk ct σ H := h
theorem idO {f : Value → Value → Sem Value} (h : zO X f x y H Q) : zO X f x y H Q := h
theorem idU {f : Value → Sem Value} (h : zU X f x H Q) : zU X f x H Q := h
theorem idG {v : V} {QG : St → Hp → Prop} (h : zG X tg v σ H QG) : zG X tg v σ H QG := h
theorem idGs {ts : List Expr} {vs : List V} {QG : St → Hp → Prop} (h : zGs X ts vs σ H QG) : zGs X ts vs σ H QG := h
theorem idP {o : Option Expr} {QO : Option Int → Hp → Prop} (h : zP X o σ H QO) : zP X o σ H QO := h
theorem idSet {o i v : V} {QH : Hp → Prop} (h : zSet X o i v H QH) : zSet X o i v H QH := h
theorem idX (h : zX X x y H Q) : zX X x y H Q := h
theorem idC {f : Value} {vs : List V} (h : zC X f vs H Q) : zC X f vs H Q := h
/-! ### operators -/
theorem o_add (h : Q (.int (i + j)) H) : zO X (binaryOp .Add) (.int i) (.int j) H Q := zO_of op_add ⟨i, j, rfl, rfl, h⟩
theorem o_sub (h : Q (.int (i - j)) H) : zO X (binaryOp .Sub) (.int i) (.int j) H Q := zO_of op_sub ⟨i, j, rfl, rfl, h⟩
theorem o_iadd (h : Q (.int (i + j)) H) : zO X (inplaceOp .Add) (.int i) (.int j) H Q := zO_of iop_add ⟨i, j, rfl, rfl, h⟩
theorem o_isub (h : Q (.int (i - j)) H) : zO X (inplaceOp .Sub) (.int i) (.int j) H Q := zO_of iop_sub ⟨i, j, rfl, rfl, h⟩
theorem o_mulL (hi : -(2 ^ 64) < i ∧ i < 2 ^ 64) (h : Q (.int (i * j)) H) : zO X (binaryOp .Mult) (.int i) (.int j) H Q := zO_of op_mul ⟨i, j, rfl, rfl, .inl hi, h⟩
theorem o_mulR (hi : -(2 ^ 64) < j ∧ j < 2 ^ 64) (h : Q (.int (i * j)) H) : zO X (binaryOp .Mult) (.int i) (.int j) H Q := zO_of op_mul ⟨i, j, rfl, rfl, .inr hi, h⟩
theorem o_mod (hj : 0 < j) (h : Q (.int (i % j)) H) : zO X (binaryOp .Mod) (.int i) (.int j) H Q := zO_of op_mod ⟨i, j, rfl, rfl, hj, h⟩
theorem o_div (hj : 0 < j ∧ j < 1073741824) (h : Q (.int (i / j)) H) : zO X (binaryOp .FloorDiv) (.int i) (.int j) H Q := zO_of op_fdiv ⟨i, j, rfl, rfl, hj, h⟩
theorem o_pow (hj : 0 ≤ j ∧ j ≤ 1000000 ∧ i.natAbs < 2 ^ 64) (h : Q (.int (i ^ j.toNat)) H) : zO X (binaryOp .Pow) (.int i) (.int j) H Q := zO_of op_pow ⟨i, j, rfl, rfl, hj, h⟩
theorem o_addS {u v : Str} (hz : u.length + v.length ≤ sizeLine) (h : Q (.str (u ++ v)) H) : zO X (binaryOp .Add) (.str u) (.str v) H Q := zO_of op_add_str ⟨u, v, rfl, rfl, hz, h⟩
theorem o_addL {l m : Addr} {xs zs : List V} (h1 : H l = some (.lst xs)) (h2 : H m = some (.lst zs)) (hz : xs.length + zs.length ≤ sizeLine) (h : ∀ p H', H p = none → Ex H H' → H' p = some (.lst (xs ++ zs)) → Q (.ref p) H') :
    zO X (binaryOp .Add) (.ref l) (.ref m) H Q := zO_of op_cat ⟨l, m, xs, zs, rfl, rfl, h1, h2, hz, fun p hp => h p _ hp (Evl.Ex.new hp) upd_same⟩
theorem o_rep {l : Addr} {xs : List V} (h1 : H l = some (.lst xs)) (hj : -(2 ^ 63) ≤ j ∧ j < 2 ^ 63) (hz : xs.length * j.toNat ≤ sizeLine) (h : ∀ p H', H p = none → Ex H H' → H' p = some (.lst (List.replicate j.toNat xs).flatten) → Q (.ref p) H') :
    zO X (binaryOp .Mult) (.ref l) (.int j) H Q := zO_of op_rep ⟨l, j, xs, rfl, rfl, h1, hj.1, hj.2, hz, fun p hp => h p _ hp (Evl.Ex.new hp) upd_same⟩
theorem o_neg (h : Q (.int (-i)) H) : zU X (unaryOp .USub) (.int i) H Q := zU_of un_neg ⟨i, rfl, h⟩
/-! ### comparisons -/
theorem o_lt (h : Q (.bl (decide (i < j))) H) : zO X (compareOp .Lt) (.int i) (.int j) H Q := zO_of op_lt ⟨i, j, rfl, rfl, h⟩
theorem o_le (h : Q (.bl (decide (i ≤ j))) H) : zO X (compareOp .LtE) (.int i) (.int j) H Q := zO_of op_le ⟨i, j, rfl, rfl, h⟩
theorem o_gt (h : Q (.bl (decide (j < i))) H) : zO X (compareOp .Gt) (.int i) (.int j) H Q := zO_of op_gt ⟨i, j, rfl, rfl, h⟩
theorem o_ge (h : Q (.bl (decide (j ≤ i))) H) : zO X (compareOp .GtE) (.int i) (.int j) H Q := zO_of op_ge ⟨i, j, rfl, rfl, h⟩
theorem dec_cg {p q : Prop} [Decidable p] [Decidable q] (h : p ↔ q) : decide p = decide q := by
  by_cases hp : p
  · rw [decide_eq_true hp, decide_eq_true (h.mp hp)]
  · rw [decide_eq_false hp, decide_eq_false fun z => hp (h.mpr z)]
theorem o_eqI (h : Q (.bl (decide (i = j))) H) : zO X (compareOp .Eq) (.int i) (.int j) H Q := zO_of op_eq ⟨rfl, by rw [dec_cg (q := i = j) ⟨fun e => V.int.inj e, fun e => by rw [e]⟩]; exact h⟩
theorem o_neI (h : Q (.bl (!decide (i = j))) H) : zO X (compareOp .NotEq) (.int i) (.int j) H Q := zO_of op_ne ⟨rfl, by rw [dec_cg (q := i = j) ⟨fun e => V.int.inj e, fun e => by rw [e]⟩]; exact h⟩
theorem o_eqS {u v : Str} (h : Q (.bl (decide (u = v))) H) : zO X (compareOp .Eq) (.str u) (.str v) H Q := zO_of op_eq ⟨rfl, by rw [dec_cg (q := u = v) ⟨fun e => V.str.inj e, fun e => by rw [e]⟩]; exact h⟩
theorem o_neS {u v : Str} (h : Q (.bl (!decide (u = v))) H) : zO X (compareOp .NotEq) (.str u) (.str v) H Q := zO_of op_ne ⟨rfl, by rw [dec_cg (q := u = v) ⟨fun e => V.str.inj e, fun e => by rw [e]⟩]; exact h⟩
theorem o_eqB {u v : Bool} (h : Q (.bl (decide (u = v))) H) : zO X (compareOp .Eq) (.bl u) (.bl v) H Q := zO_of op_eq ⟨rfl, by rw [dec_cg (q := u = v) ⟨fun e => V.bl.inj e, fun e => by rw [e]⟩]; exact h⟩
theorem o_neB {u v : Bool} (h : Q (.bl (!decide (u = v))) H) : zO X (compareOp .NotEq) (.bl u) (.bl v) H Q := zO_of op_ne ⟨rfl, by rw [dec_cg (q := u = v) ⟨fun e => V.bl.inj e, fun e => by rw [e]⟩]; exact h⟩
theorem o_ltS {u v : Str} (h : Q (.bl (decide (tl u < tl v))) H) : zO X (compareOp .Lt) (.str u) (.str v) H Q := zO_of op_lt_str ⟨u, v, rfl, rfl, h⟩
theorem o_isN (h : Q (.bl (decide (x = .non))) H) : zO X (compareOp .Is) x .non H Q := zO_of op_isN ⟨rfl, h⟩
theorem o_notN (h : Q (.bl (!decide (x = .non))) H) : zO X (compareOp .IsNot) x .non H Q := zO_of op_notN ⟨rfl, h⟩
theorem o_inC {c : Nat} {z : Str} (h : Q (.bl (decide (c ∈ tl z))) H) : zO X (compareOp .In) (.str ⟨#[c]⟩) (.str z) H Q := zO_of op_in_sign ⟨c, z, rfl, rfl, h⟩
theorem o_ninC {c : Nat} {z : Str} (h : Q (.bl (!decide (c ∈ tl z))) H) : zO X (compareOp .NotIn) (.str ⟨#[c]⟩) (.str z) H Q := zO_of op_notIn_sign ⟨c, z, rfl, rfl, h⟩
theorem o_inL {l : Addr} {xs : List V} (hl : SqL X.K H l xs) (hx : flatV x = true) (ha : xs.all flatV = true) (h : Q (.bl (inV x xs)) H) : zO X (compareOp .In) x (.ref l) H Q := zO_of op_in_seq ⟨l, xs, rfl, .inl hl, hx, ha, h⟩
theorem o_ninL {l : Addr} {xs : List V} (hl : SqL X.K H l xs) (hx : flatV x = true) (ha : xs.all flatV = true) (h : Q (.bl (!inV x xs)) H) : zO X (compareOp .NotIn) x (.ref l) H Q := zO_of op_notIn_seq ⟨l, xs, rfl, .inl hl, hx, ha, h⟩
theorem o_inT {l : Addr} {xs : List V} (hl : SqT X.K H l xs) (hx : flatV x = true) (ha : xs.all flatV = true) (h : Q (.bl (inV x xs)) H) : zO X (compareOp .In) x (.ref l) H Q := zO_of op_in_seq ⟨l, xs, rfl, .inr hl, hx, ha, h⟩
/-! ### places -/
theorem x_l {l : Addr} {xs : List V} {v : V} (hl : SqL X.K H l xs) (ha : atI xs i = some v) (h : Q v H) : zX X (.ref l) (.int i) H Q := zX_of ix_list ⟨l, xs, i, v, rfl, rfl, hl, ha, h⟩
theorem x_t {l : Addr} {xs : List V} {v : V} (hl : SqT X.K H l xs) (ha : atI xs i = some v) (h : Q v H) : zX X (.ref l) (.int i) H Q := zX_of ix_tup ⟨l, xs, i, v, rfl, rfl, hl, ha, h⟩
theorem x_s {z : Str} {c : Nat} (hz : z.length ≤ sizeLine) (ha : atI (tl z) i = some c) (h : Q (.str ⟨#[c]⟩) H) : zX X (.str z) (.int i) H Q := zX_of ix_str ⟨z, i, c, rfl, rfl, hz, ha, h⟩
theorem st_l {l : Addr} {xs : List V} {v : V} {j : Nat} {QH : Hp → Prop} (hl : H l = some (.lst xs)) (hj : ixN xs.length i = some j) (h : QH (upd H l (.lst (xs.set j v)))) : zSet X (.ref l) (.int i) v H QH := zSet_of set_list ⟨l, xs, i, j, rfl, rfl, hl, hj, h⟩
theorem st_lU {l : Addr} {xs : List V} {v : V} {j : Nat} {QH : Hp → Prop} (hj : ixN xs.length i = some j) (h : QH (upd H l (.lst (xs.set j v)))) : zSet X (.ref l) (.int i) v (upd H l (.lst xs)) QH := st_l upd_same hj (by rw [upd_upd]; exact h)
theorem ix_ok {n : Nat} (h0 : 0 ≤ i) (h1 : i < n) : ixN n i = some i.toNat := by unfold ixN; rw [if_pos h0, if_pos h1]
theorem at_ok {α : Type} {xs : List α} {v : α} (h0 : 0 ≤ i) (hv : xs[i.toNat]? = some v) : atI xs i = some v := by
  have h1 : i.toNat < xs.length := (List.getElem?_eq_some_iff.mp hv).1
  unfold atI
  rw [ix_ok h0 (by omega)]
  exact hv
theorem at_last {α : Type} {xs : List α} {v : α} (hv : xs.getLast? = some v) : atI xs (-1) = some v := by
  obtain ⟨ys, rfl⟩ := List.getLast?_eq_some_iff.mp hv
  exact L2.atI_last ys v
theorem l_sl {l : Addr} {xs : List V} {lo hi : Option Int} (hl : SqL X.K H l xs) (h : ∀ p H', H p = none → Ex H H' → H' p = some (.lst (cutV xs lo hi)) → Q (.ref p) H') : zSl X (.ref l) lo hi H Q :=
  zSl_of sl_list ⟨l, xs, rfl, hl, fun p hp => h p _ hp (Evl.Ex.new hp) upd_same⟩
theorem s_sl {z : Str} {lo hi : Option Int} (hz : z.length ≤ sizeLine) (h : Q (.str (cutS z lo hi)) H) : zSl X (.str z) lo hi H Q := zSl_of sl_str ⟨z, rfl, hz, h⟩
/-! ### displays: a new thing -/
theorem n_lst {es : List Expr} (h : zA X es σ H fun xs H1 => xs.length ≤ sizeLine ∧ ∀ p H', H1 p = none → Ex H1 H' → H' p = some (.lst xs) → Q (.ref p) H') : zE X (.List es pos) σ H Q :=
  e_lst (zA_mono h fun xs H1 ⟨z, q⟩ => ⟨z, fun p hp => q p _ hp (Evl.Ex.new hp) upd_same⟩)
theorem n_tup {es : List Expr} {kk} (h : zA X es σ H fun xs H1 => xs.length ≤ sizeLine ∧ ∀ p H', H1 p = none → Ex H1 H' → H' p = some (.tup xs) → Q (.ref p) H') : zE X (.Tuple es kk pos) σ H Q :=
  e_tup (zA_mono h fun xs H1 ⟨z, q⟩ => ⟨z, fun p hp => q p _ hp (Evl.Ex.new hp) upd_same⟩)
/-! ### built-ins by name -/
theorem e_len (C : Ctx X P w K mg base N sc k) (hm : mg "len" = none) (h : zE X a σ H fun v H1 => zC X (.builtin "len") [v] H1 Q) (hg : gloB sc "len" = true := by decide +kernel) (he : starEach [a] X.env = (false, eval a X.env) :: starEach [] X.env := by rfl) : zE X (.Call (.Name "len" p) [a] [] pos) σ H Q :=
  e_callB (C.gl hg) (by rw [C.mgl]; exact hm) PySem.boot_len (a_cons (zE_mono h fun v H1 q => a_nil q) he) (he := he)
theorem e_int1 (C : Ctx X P w K mg base N sc k) (hm : mg "int" = none) (h : zE X a σ H fun v H1 => zC X (.type "int") [v] H1 Q) (hg : gloB sc "int" = true := by decide +kernel) (he : starEach [a] X.env = (false, eval a X.env) :: starEach [] X.env := by rfl) : zE X (.Call (.Name "int" p) [a] [] pos) σ H Q :=
  e_callT (C.gl hg) (by rw [C.mgl]; exact hm) (by decide +kernel) (a_cons (zE_mono h fun v H1 q => a_nil q) he) (he := he)
theorem e_sorted (C : Ctx X P w K mg base N sc k) (hm : mg "sorted" = none) (h : zE X a σ H fun v H1 => zC X (.builtin "sorted") [v] H1 Q) (hg : gloB sc "sorted" = true := by decide +kernel) (he : starEach [a] X.env = (false, eval a X.env) :: starEach [] X.env := by rfl) : zE X (.Call (.Name "sorted" p) [a] [] pos) σ H Q :=
  e_callB (C.gl hg) (by rw [C.mgl]; exact hm) (by decide +kernel) (a_cons (zE_mono h fun v H1 q => a_nil q) he) (he := he)
theorem c_lenL {l : Addr} {xs : List V} (hl : SqL X.K H l xs) (h : Q (.int (xs.length : Int)) H) : zC X (.builtin "len") [.ref l] H Q := zC_of call_len_seq ⟨l, xs, rfl, .inl hl, h⟩
theorem c_lenT {l : Addr} {xs : List V} (hl : SqT X.K H l xs) (h : Q (.int (xs.length : Int)) H) : zC X (.builtin "len") [.ref l] H Q := zC_of call_len_seq ⟨l, xs, rfl, .inr hl, h⟩
theorem c_lenS {z : Str} (hz : z.length ≤ sizeLine) (h : Q (.int (z.length : Int)) H) : zC X (.builtin "len") [.str z] H Q := zC_of call_len_str ⟨z, rfl, hz, h⟩
theorem c_int (h : Q (.int i) H) : zC X (.type "int") [.int i] H Q := zC_of call_int1 (.inl ⟨i, rfl, h⟩)
theorem c_sortedS {l : Addr} {xs : List Str} (hl : SqL X.K H l (xs.map V.str)) (hz : xs.length < 64) (h : ∀ (ys : List Str) (p : Addr) H', ys.Perm xs → PyProof.Rows.sortedS ys = true → H p = none → Ex H H' → H' p = some (.lst (ys.map V.str)) → Q (.ref p) H') :
    zC X (.builtin "sorted") [.ref l] H Q := zC_of cr_sortedS ⟨l, xs, rfl, hl, hz, fun ys p h1 h2 hp => h ys p _ h1 h2 hp (Evl.Ex.new hp) upd_same⟩
def Gs (mg : Str → Option Value) (x : Str) (z : Str) : Prop := ∃ t, mg x = some (.str z t)
def Gi (mg : Str → Option Value) (x : Str) (i : Int) : Prop := ∃ t, mg x = some (.int i t)
theorem e_gstr {x z : Str} (C : Ctx X P w K mg base N sc k) (g : Gs mg x z) (h : Q (.str z) H) (hg : gloB sc x = true := by decide +kernel) (hd : (x == ("__debug__" : Str)) = false := by decide) : zE X (.Name x pos) σ H Q := by
  obtain ⟨t, g⟩ := g
  exact e_glob (C.gl hg) (by rw [C.mgl]; exact g) (by exact ⟨t, rfl⟩) h hd
theorem e_gint {x : Str} {i : Int} (C : Ctx X P w K mg base N sc k) (g : Gi mg x i) (h : Q (.int i) H) (hg : gloB sc x = true := by decide +kernel) (hd : (x == ("__debug__" : Str)) = false := by decide) : zE X (.Name x pos) σ H Q := by
  obtain ⟨t, g⟩ := g
  exact e_glob (C.gl hg) (by rw [C.mgl]; exact g) (by exact ⟨t, rfl⟩) h hd
theorem bl_ok {k : Bool} {QT : Bool → Prop} (h : QT k) : ∃ k', V.bl k = V.bl k' ∧ QT k' := ⟨k, rfl, h⟩
theorem str_ok {z : Str} {QS : Str → Prop} (h : QS z) : ∃ z', V.str z = V.str z' ∧ QS z' := ⟨z, rfl, h⟩
theorem int_ok {QO : Int → Prop} (h : QO i) : ∃ i', V.int i = V.int i' ∧ QO i' := ⟨i, rfl, h⟩
theorem if_d {p : Prop} {_ : Decidable p} {A B : Prop} (h1 : p → A) (h2 : ¬ p → B) : if decide p = true then A else B := by
  by_cases h : p
  · rw [if_pos (decide_eq_true h)]; exact h1 h
  · rw [if_neg (by rw [decide_eq_false h]; decide)]; exact h2 h
theorem if_nd {p : Prop} {_ : Decidable p} {A B : Prop} (h1 : ¬ p → A) (h2 : p → B) : if (!decide p) = true then A else B := by
  by_cases h : p
  · rw [if_neg (by rw [decide_eq_true h]; decide)]; exact h2 h
  · rw [if_pos (by rw [decide_eq_false h]; rfl)]; exact h1 h
theorem if_b {c : Bool} {A B : Prop} (h1 : c = true → A) (h2 : c = false → B) : if c = true then A else B := by
  cases c
  · exact h2 rfl
  · exact h1 rfl
theorem if_t {A B : Prop} (h : A) : if true = true then A else B := h
theorem if_f {A B : Prop} (h : B) : if false = true then A else B := h
/-! ### methods -/
theorem e_append {o e : Expr} {apos cpos : Pos} (h : zE X o σ H fun v H1 => ∃ l u, v = .ref l ∧ H1 l = some (.lst u) ∧ zE X e σ H1 fun y H2 => ∃ xs, H2 l = some (.lst xs) ∧ xs.length < sizeLine ∧ ∀ H3, Xb l H2 H3 → H3 l = some (.lst (xs ++ [y])) → Q .non H3)
    (hp : PE X (.Call (.Attribute o "append" apos) [e] [] cpos) (tBM X.K "list" rAppend (zE X o) (zA X [e])) := by exact pe_bm PySem.F.plainAttrs_list PySem.F.slot_list_append PySem.F.type_list_append mt_append (zE_ok _) (zA_ok _))
    (he : starEach [e] X.env = (false, eval e X.env) :: starEach [] X.env := by rfl) : zE X (.Call (.Attribute o "append" apos) [e] [] cpos) σ H Q :=
  zE_of hp (zE_mono h fun v H1 ⟨l, u, e1, h0, h1⟩ => by
    subst e1
    exact ⟨Or.inl ⟨rfl, u, SqL.of h0⟩, a_cons (zE_mono h1 fun y H2 ⟨xs, g1, g2, g4⟩ => a_nil ⟨l, xs, y, rfl, rfl, g1, g2, g4 _ .upd upd_same⟩) he⟩)
theorem e_pop {o : Expr} {apos cpos : Pos} (h : zE X o σ H fun v H1 => ∃ l xs y, v = .ref l ∧ H1 l = some (.lst (xs ++ [y])) ∧ ∀ H3, Xb l H1 H3 → H3 l = some (.lst xs) → Q y H3)
    (hp : PE X (.Call (.Attribute o "pop" apos) [] [] cpos) (tBM0 X.K "list" rPop (zE X o)) := by exact pe_bm0 PySem.F.plainAttrs_list PySem.F.slot_list_pop PySem.F.type_list_pop mt_pop (zE_ok _)) : zE X (.Call (.Attribute o "pop" apos) [] [] cpos) σ H Q :=
  zE_of hp (zE_mono h fun v H1 ⟨l, xs, y, e1, h0, h1⟩ => by
    subst e1
    refine ⟨Or.inl ⟨rfl, _, SqL.of h0⟩, l, _, y, rfl, rfl, h0, by simp, ?_⟩
    rw [List.dropLast_concat]
    exact h1 _ .upd upd_same)
theorem e_join {o e : Expr} {apos cpos : Pos} (h : zE X o σ H fun v H1 => ∃ z, v = .str z ∧ zE X e σ H1 fun y H2 => ∃ l ys, y = .ref l ∧ SqL X.K H2 l (ys.map V.str) ∧ (ys.map (·.length)).sum + ys.length * z.length ≤ 16777216 ∧ Q (.str (PySem.Str.join z ys)) H2)
    (hs : starEach [e] X.env = [(false, eval e X.env)] := by rfl) (hb : attributeBase o "join" X.env (eval o X.env) = eval o X.env := by rfl) (hl : (apos.endLine == cpos.line) = true := by rfl) : zE X (.Call (.Attribute o "join" apos) [e] [] cpos) σ H Q :=
  zE_of (pe_join (zE_ok o) (zE_ok e) hs hb hl) (zE_mono h fun v H1 ⟨z, e1, h1⟩ => ⟨⟨z, e1⟩, zE_mono h1 fun y H2 ⟨l, ys, e2, h2, h3, h4⟩ => ⟨z, l, ys, e1, by rw [e2], .inl h2, h3, by rw [TL.join_eq]; exact h4⟩⟩)
/-! ### a tracked object seen otherwise -/
theorem inv_as {ps : List (Addr × Obj)} {s : Shared} {l : Addr} {o : HO} (I : Inv X ps σ H s) (mu : Mut (H l)) (ho : ∃ u, H l = some u) (new : ObjOk X.prog X.w (upd H l o) s.heap l o) : Inv X ps σ (upd H l o) s := by
  obtain ⟨u, hu⟩ := ho
  have hlt := I.hok.lt hu
  have := I.write (o := o) (x := l) (e := l) (h' := s.heap) (t' := s.toks) mu (.inl rfl) (fun _ _ _ e => e) ?_ new
  · exact this
  · have ok := I.hok l u hu
    cases hg : s.heap.get? l with
    | some v => exact ⟨v, rfl⟩
    | none =>
      exfalso
      cases u with
      | lst xs => obtain ⟨_, _, _, _, e⟩ := ok; rw [hg] at e; cases e
      | ext φ => obtain ⟨_, ⟨_, e⟩, _⟩ := ok; rw [hg] at e; cases e
      | dK kvs => obtain ⟨_, _, _, _, o, _, _, e, _⟩ := ok; rw [hg] at e; cases e
      | dT kvs => obtain ⟨_, _, _, _, o, _, _, e, _⟩ := ok; rw [hg] at e; cases e
      | set S n => obtain ⟨o, _, _, _, e, _⟩ := ok; rw [hg] at e; cases e
      | ins C dx fs => obtain ⟨_, _, _, e, _⟩ := ok; rw [hg] at e; cases e
      | tup xs => rw [hu] at mu; exact mu
      | own y => rw [hu] at mu; exact mu
      | xd fs => rw [hu] at mu; exact mu
      | met f y => rw [hu] at mu; exact mu
      | rng lo hi => rw [hu] at mu; exact mu
      | frz ob u => rw [hu] at mu; exact mu
      | tbl ps => rw [hu] at mu; exact mu
theorem upd_back {H : Hp} {l : Addr} {o : HO} (h : H l = some o) : upd H l o = H := by
  funext b
  by_cases e : b = l
  · subst e; rw [upd_same, h]
  · rw [upd_ne e]
end
end Z

namespace Z
open PySem L2
/-- which names a pair's stores are turned for, by the scope alone -/
def swShape (sc : Scope) (ts vs : List Expr) : Bool := !(ts.length == 2 || ts.length == 3) || vs.length != ts.length || (if sc.kind.isAnnotationScope then ScopeKind.function else sc.kind) != .function
def swStar (vs : List Expr) : Bool := vs.any fun | .Starred .. => true | _ => false
def swNames (sc : Scope) (ts : List Expr) : List Str := ts.filterMap fun
    | .Name id pos => if sc.names.lookup id == some .local && pos.line == (ts.head?.map (·.pos.line)).getD 0 then some id else none
    | _ => none
def swp (sc : Scope) (ts vs : List Expr) : Option (Option (List Str)) :=
  if swShape sc ts vs = true then some none else if swStar vs = true then some none
  else if ((swNames sc ts).length != ts.length || (swNames sc ts).eraseDups.length != (swNames sc ts).length) = true then some none
  else if vs.all (foldedForSure 8) = true then some none
  else if vs.all (constantsAlone 8) = true then none else some (some (swNames sc ts))
theorem swp_eq {env : Env} {ts vs : List Expr} {kt k2 pt p2} : swappedStores [.Tuple ts kt pt] (.Tuple vs k2 p2) env =
    (if swShape env.scope ts vs = true then pure none else if swStar vs = true then pure none
  else if ((swNames env.scope ts).length != ts.length || (swNames env.scope ts).eraseDups.length != (swNames env.scope ts).length) = true then pure none
  else if vs.all (foldedForSure 8) = true then pure none
  else if vs.all (constantsAlone 8) = true then (do unsupported "assign.tuple-of-constant-expressions:order-of-the-stores"; pure (some (swNames env.scope ts))) else pure (some (swNames env.scope ts))) := rfl
theorem swp_ok {env : Env} {ts vs : List Expr} {kt k2 pt p2} {o : Option (List Str)} (h : swp env.scope ts vs = some o) : swappedStores [.Tuple ts kt pt] (.Tuple vs k2 p2) env = pure o := by
  rw [swp_eq]
  unfold swp at h
  cases a : swShape env.scope ts vs <;> rw [a] at h <;> simp only [Bool.false_eq_true, if_false, if_true] at h ⊢
  case true => cases h; rfl
  cases a : swStar vs <;> rw [a] at h <;> simp only [Bool.false_eq_true, if_false, if_true] at h ⊢
  case true => cases h; rfl
  cases a : ((swNames env.scope ts).length != ts.length || (swNames env.scope ts).eraseDups.length != (swNames env.scope ts).length) <;> rw [a] at h <;> simp only [Bool.false_eq_true, if_false, if_true] at h ⊢
  case true => cases h; rfl
  cases a : vs.all (foldedForSure 8) <;> rw [a] at h <;> simp only [Bool.false_eq_true, if_false, if_true] at h ⊢
  case true => cases h; rfl
  cases a : vs.all (constantsAlone 8) <;> rw [a] at h <;> simp only [Bool.false_eq_true, if_false, if_true] at h ⊢
  · cases h; rfl
  · cases h
section
variable {X : Cx} {P : Program} {w : World} {K : PySem.W.Frag} {mg : Str → Option Value} {base : Heap} {N : List Str} {sc : Scope} {k : Nat}
variable {σ : St} {H : Hp} {nx bk ct : St → Hp → Prop} {rt : VK} {Q : VK}
theorem Ctx.sw (C : Ctx X P w K mg base N sc k) {ts vs : List Expr} {kt k2 pt p2} {o : Option (List Str)} (h : swp sc ts vs = some o) : swappedStores [.Tuple ts kt pt] (.Tuple vs k2 p2) X.env = pure o := swp_ok (by rw [C.scp]; exact h)
/-- x, y = a, b without a tuple made -/
theorem s_pair {i j : Nat} {x y : Str} {a b : Expr} {px py pt pos : Pos} {kt k2 pt2} (C : Ctx X P w K mg base N sc k) (nx' : Ns X x i) (ny : Ns X y j) (hij : i ≠ j) (hx : lclB sc x = true) (hy : lclB sc y = true)
    (hw : swp sc [.Name x px, .Name y py] [a, b] = some (some [x, y]))
    (h : zE X a σ H fun v H1 => zE X b σ H1 fun w H2 => nx ((σ.set i (some v)).set j (some w)) H2)
    (hs2 : starEach [a, b] X.env = (false, eval a X.env) :: starEach [b] X.env := by rfl) (hs1 : starEach [b] X.env = (false, eval b X.env) :: starEach [] X.env := by rfl)
    (hs : swapsWithSole [.Tuple [.Name x px, .Name y py] kt pt] (.Tuple [a, b] k2 pt2) pos.line X.env = pure false := by rfl) :
    zS X (.Assign [.Tuple [.Name x px, .Name y py] kt pt] (.Tuple [a, b] k2 pt2) pos) nx rt bk ct σ H := s_par C.calm nx' ny hij (C.lcl hx) (C.lcl hy) h hs2 hs1 (C.sw hw) hs
/-- ts = vs with a tuple made -/
theorem s_tup {ts vs : List Expr} {kt k2 pt pt2 pos} (C : Ctx X P w K mg base N sc k) (hw : swp sc ts vs = some none)
    (h : zA X vs σ H fun xs H1 => xs.length ≤ sizeLine ∧ xs.length = ts.length ∧ ∀ H2, Ex H1 H2 → zGs X ts xs σ H2 nx)
    (hn : (assignEach ts X.env).length = ts.length := by rfl) (hst : (assignEach ts X.env).findIdx? (·.1) = none := by rfl)
    (hs : swapsWithSole [.Tuple ts kt pt] (.Tuple vs k2 pt2) pos.line X.env = pure false := by rfl) (h1 : (assignEach [.Tuple ts kt pt] X.env).map (·.2) = [assign (.Tuple ts kt pt) X.env] := by rfl) :
    zS X (.Assign [.Tuple ts kt pt] (.Tuple vs k2 pt2) pos) nx rt bk ct σ H :=
  s_asg (n_tup (zA_mono h fun xs H1 ⟨h1, h2, h3⟩ => ⟨h1, fun p H' hp e hp' => g_tup C (SqT.of hp') (h3 H' e) (hn.trans h2.symm) hst⟩)) hs (C.sw hw) h1
end
end Z

/-! own errors: __init__ with super().__init__(text), then fields -/
namespace Z
open PySem L2
/-- what the written part says of an own error's class at C and its __init__ at f (closed over the cell cc, its code at cda) -/
structure ExI (P : Program) (K : PySem.W.Frag) (C f cc cda : Addr) (name qual : Str) (params : Arguments) (body : List Stmt) (scope : Scope) (fd : FuncData) : Prop where
  lk : ∃ oc od osl, K.lookup f = some ⟨oc, od, .func fd, osl⟩
  fdE : ∃ dV kV doc pm an ct, fd = PySem.W.fnX name qual params body scope [("__class__", cc)] dV kV doc pm an (.ref cda) ct
  cdI : PySem.W.codeIn K (.ref cda) qual = true
  code : ∃ ccl cdd vs ccs file tf, K.lookup cda = some ⟨ccl, cdd, .fields vs, ccs⟩ ∧ vs[2]? = some (.str file tf) ∧ ((P.main.file : Str) == file) = true
  cell : ∃ cl cld csl, K.lookup cc = some ⟨cl, cld, .cell (some (.ref C)), csl⟩
  clsI : ∃ cd, PySem.W.clsIn K C = some cd
  mro : PySem.W.mroIn K C (.ref C) = some true
  sup : PySem.W.ks_superIn K C C "__init__" = some (some (.builtin "ValueError.__init__"))
  subV : PySem.W.subIn K (.ref C) (.type "ValueError") = some true
  thr : PySem.W.nsIn K cStatics "thirdparty.any" = some none
  top : (P.main.scope.names.lookup ("super" : Str)).isSome = false
  ox : OexC K C
section
variable {X : Cx} {pins : List (Addr × Obj)} {σ : St} {H : Hp} {s : Shared} {a C f cc cda : Addr}
/-- super().__init__(text) of an error that is being made -/
theorem sup_init {name qual : Str} {params : Arguments} {body body' : List Stmt} {scope : Scope} {fd : FuncData} {E : Value → Shared → Prop} {txt : Str} {ar : Arg} {j i : Nat} {p0 p1 p2 p3 p4 : Pos} (T : ExI X.prog X.K C f cc cda name qual params body scope fd) (I : Inv X pins σ H s)
    (hsc : X.env.scope = scope) (hf : X.env.func = some f) (hcd : X.env.code = .ref cda) (hcl : X.env.cells = ([("__class__", cc)] : List (Str × Addr))) (hmg : X.mg "super" = none)
    (hks : scope.names.lookup ("super" : Str) = some .globalImplicit) (hkc : scope.names.lookup ("__class__" : Str) = some .free) (hp : (params.posonlyargs ++ params.args).head? = some ar) (hka : scope.names.lookup ar.arg = some .local)
    (hN : X.N[i]? = some ar.arg) (hσ : σ[i]? = some (some (.ref a))) (ha : H a = some (exo a C none)) {Q : Value → Shared → Prop} (h : ∀ v s', Inv X pins σ H s' → Q v s')
    {pl : Sem Bool} (he : eval (.Call (.Attribute (.Call (.Name "super" p0) [] [] p1) "__init__" p2) [.Constant (.str txt) j p3] [] p4) X.env = (do
      let ov ← attributeBase (.Call (.Name "super" p0) [] [] p1) "__init__" X.env (eval (.Call (.Name "super" p0) [] [] p1) X.env)
      standAt p2.atName
      let (f, first) ← holding [ov] (getMethod ov "__init__" pl)
      callWith p4 f first (backTo p4 (starEach [.Constant (.str txt) j p3] X.env)) [])) :
    wpAt (model X.prog X.w) X.A (.func body' X.env) (eval (.Call (.Attribute (.Call (.Name "super" p0) [] [] p1) "__init__" p2) [.Constant (.str txt) j p3] [] p4) X.env) Q E s := by
  obtain ⟨oc, od, osl, lk⟩ := T.lk
  obtain ⟨dV, kV, doc, pm, an, ct, rfl⟩ := T.fdE
  obtain ⟨ccl, cdd, vs, ccs, file, tf, lc, hvs, hfile⟩ := T.code
  obtain ⟨cl, cld, csl, lcell⟩ := T.cell
  obtain ⟨cd, hcls⟩ := T.clsI
  have hk : X.env.scope.kind = .function := I.ok.kind
  
  obtain ⟨oD, hD1, hD2⟩ : ∃ oD, s.heap.get? C = some oD ∧ oD.data = .cls cd := by
    unfold PySem.W.clsIn at hcls
    split at hcls
    · rename_i c d cd' sl ho
      cases hcls
      exact ⟨_, I.kIn _ _ ho, rfl⟩
    · cases hcls
  obtain ⟨t0, hx⟩ := exo_at I.hok ha
  obtain ⟨m, hn, hl⟩ := I.loc
  have hself : m ar.arg = some (.ref a) := by
    obtain ⟨u, r, q⟩ := hl i ar.arg (.ref a) hN hσ (.inl (by rw [hsc]; exact hka))
    obtain rfl : u = Value.ref a := r
    rcases q with ⟨_, q⟩ | ⟨q, _⟩
    · exact q
    · exfalso
      have : X.env.scope.names.lookup ar.arg = some .local := by rw [hsc]; exact hka
      rcases q with q | q
      · have q : X.env.scope.names.lookup ar.arg = some .cell := q
        rw [this] at q; cases q
      · have q : X.env.scope.names.lookup ar.arg = some .free := q
        rw [this] at q; cases q
  have kS : X.env.kindOf "super" = some .globalImplicit := by show X.env.scope.names.lookup _ = _; rw [hsc]; exact hks
  have kC : X.env.kindOf "__class__" = some .free := by show X.env.scope.names.lookup _ = _; rw [hsc]; exact hkc
  have kA : X.env.kindOf ar.arg = some .local := by show X.env.scope.names.lookup _ = _; rw [hsc]; exact hka
  refine PySem.ks_wpAt_MethodCall (pl := pl) (PySem.ks_wpAt_super_base kS kC (by decide) hf (I.kIn _ _ lk) rfl hp hcd (I.kIn _ _ lc) rfl hvs hfile T.top ?_) he
  obtain ⟨mb, h1, h2⟩ := I.mod.blt
  refine PySem.W.ks_loadName_global hk kS (Calls.loadGlobal_builtin (by rw [I.ok.glob]; exact I.mod.glob.keeps I.bk) hmg (by rw [I.ok.blt]; exact h1.keeps I.bk) ((h2 _ (by decide)).trans (by decide +kernel : bootBuiltins "super" = some (.type "super"))) ⟨rfl, ?_⟩)
  refine wpAny_loadName_free hk kC (by rw [hcl]; rfl) ⟨_, I.kIn _ _ lcell, rfl⟩ ?_
  refine wpAny_loadName_local hk kA hn hself ?_
  obtain ⟨hh, g, d, t, os⟩ := s
  refine PySem.ks_wpAny_isType_cls hD1 hD2 ⟨rfl, ?_⟩
  refine PySem.ks_wpAny_call_super hD1 hD2 hx rfl (fun c z => by cases z) (PySem.W.looks_mroIn I.kIn T.mro) (fun h' e k => ?_)
  have I1 : Inv X pins σ H ⟨h', g, d, t, os⟩ := I.kept (t' := t) k
  have xC : a ≠ C := fun z => by
    have := k _ _ hx
    have h3 := k _ _ hD1
    rw [z, h3] at this
    have := Option.some.inj this
    rw [this] at hD2
    cases hD2
  have hmro : PySem.W.Looks (model X.prog X.w) h' (mroOf (.ref C)) cd.mro := (PySem.W.looks_clsIn I1.kIn hcls).andThen .now
  have hI : PySem.W.Looks (model X.prog X.w) h' (isInstance (.ref a) (.type "ValueError")) true := PySem.W.Looks.andThen (a := .ref C) (fun A Q E s k' q => wpAny_typeOf_ref (k' _ _ (k _ _ hx)) q) (PySem.W.looks_subIn I1.kIn T.subV)
  have hsup : PySem.W.alongIn X.K "__init__" ((cd.mro.dropWhile (· != .ref C)).drop 1) = some (some (.builtin "ValueError.__init__")) := by
    have := T.sup
    unfold PySem.W.ks_superIn at this
    rw [hcls] at this
    exact this
  refine PySem.W.kxs_getMethod PySem.W.kxs_ValueError e (PySem.W.looks_opaque I1.kIn T.thr) hmro rfl I1.kIn hsup hI xC (by decide) ?_
  have k2 : ∀ b o, h'.get? b = some o → (h'.push (PySem.W.kxs_mw "ValueError.__init__" a)).get? b = some o := fun b o q => Heap.get?_push_of_some _ q
  have hu : (h'.push (PySem.W.kxs_mw "ValueError.__init__" a)).get? h'.objs.size = some (PySem.W.kxs_mw "ValueError.__init__" a) := Heap.get?_push_at rfl rfl
  have I2 : Inv X pins σ H ⟨h'.push (PySem.W.kxs_mw "ValueError.__init__" a), g, d, t + 1, os⟩ := I1.kept (t' := t + 1) k2
  refine PySem.W.kxs_callWith (i := "ValueError.__init__") (x := a) (by rfl) (Calls.evalArgs_plain ?_)
  show wpAny _ _ (spliced [(false, eval (.Constant (.str txt) j p3) X.env)]) _ _ _
  refine Calls.spliced_cons (Calls.Constant_str (Calls.spliced_nil ⟨hu, ?_⟩))
  obtain ⟨nm, q, N, bs, bm, sn, sub, ab, col, dd, k0, k1, k2', k3, k5, hC, hbm⟩ := T.ox.cls
  have hCh := I2.kIn _ _ hC
  have hxh := k2 _ _ (k _ _ hx)
  refine wpAny_call (codeAny_of_tree ?_)
  show wpAny _ X.A.in1 (callAny (.ref h'.objs.size) ⟨_, []⟩) _ _ _
  simp only [callAny]
  refine wpAny_bind (wpAny_load hu ?_)
  simp only [PySem.W.kxs_mw, show (Value.type "method-wrapper" == Value.type "method" || Value.type "method-wrapper" == Value.type "builtin_function_or_method" || Value.type "method-wrapper" == Value.type "method-wrapper") = true by decide, if_true]
  refine PySem.W.KFB.if_so (by decide) ?_
  refine wpAny_bind (PySem.W.check_bound_init F.excBase_ValueError.toExcCallFacts hCh hxh rfl ?_)
  refine wpAny_bind (wpAny_pure (wpAny_pure ?_))
  refine ⟨plainId_quiet F.excBase_ValueError.init.plain _, codeAny_builtin F.excBase_ValueError.initEntry ?_⟩
  refine PySem.W.exc_init_tree (cls := .ref C) (t0 := t0) (dv := none) (c2 := .none) (c3 := .none) (b4 := .bool false) hxh (by show 1 ≤ sizeLine; decide) fun h3 k3 hx3 ht3 => ?_
  refine h _ _ ?_
  have J := I2.write (t' := t + 1 + 1) (x := a) (e := a) (o := exo a C none) (h' := h3) (by rw [ha]; exact True.intro) (.inl rfl) k3 ⟨_, hx3⟩ (exo_ok hx3)
  rw [upd_back ha] at J
  exact J
end
section
variable {P : Program} {w : World} {K : PySem.W.Frag} {mg : Str → Option Value} {base : Heap} {N ps : List Str} {k : Nat} {C f cc cda : Addr} {fd : FuncData} {CX : CXT} {sp : Sp}
/-- an own error's __init__: super().__init__(text), then rest -/
theorem init_ok {name qual txt : Str} {params : Arguments} {body rest : List Stmt} {scope : Scope} {ar : Arg} {j : Nat} {p0 p1 p2 p3 p4 p5 : Pos} (T : ExI P K C f cc cda name qual params body scope fd) (S : NdefX.NScope N ps ["__class__"] scope) (hmg : mg "super" = none)
    (hbd : body = .Expr (.Call (.Attribute (.Call (.Name "super" p0) [] [] p1) "__init__" p2) [.Constant (.str txt) j p3] [] p4) p5 :: rest)
    {pl : Env → Sem Bool} (he : ∀ env, eval (.Call (.Attribute (.Call (.Name "super" p0) [] [] p1) "__init__" p2) [.Constant (.str txt) j p3] [] p4) env = (do
      let ov ← attributeBase (.Call (.Name "super" p0) [] [] p1) "__init__" env (eval (.Call (.Name "super" p0) [] [] p1) env)
      standAt p2.atName
      let (f, first) ← holding [ov] (getMethod ov "__init__" (pl env))
      callWith p4 f first (backTo p4 (starEach [.Constant (.str txt) j p3] env)) []))
    (hks : scope.names.lookup ("super" : Str) = some .globalImplicit) (hp : (params.posonlyargs ++ params.args).head? = some ar) (hp0 : ps.head? = some ar.arg)
    (len : ∀ vs H Q E, sp vs H Q E → vs.length = ps.length) (self : ∀ vs H Q E, sp vs H Q E → ∃ a vs', vs = .ref a :: vs' ∧ H a = some (exo a C none))
    (hb : ∀ X vs H Q E, Ctx X P w K mg base N scope k → sp vs H Q E → zB X rest (fun _ H' => Q .non H') Q (fun _ _ => False) (fun _ _ => False) (NdefX.startF N vs [some (.ref C)]) H) : FnOk P w K mg base CX (k + 1) f fd ps sp := by
  obtain ⟨oc, od, osl, lk⟩ := T.lk
  obtain ⟨dV, kV, doc, pm, an, ct, rfl⟩ := T.fdE
  obtain ⟨cl, cld, csl, lcell⟩ := T.cell
  refine ⟨len, fun A outer s H args us vs Q E hr e0 hbd' r hsp => ?_⟩
  have hl := len _ _ _ _ hsp
  have KX : K.In s.heap := e0.mod.kin.keeps fun b o e => (e0.bs b o e).1
  have lim : s.heap.NoLimit := e0.mod.nolimit.keeps fun b o e => (e0.bs b o e).1
  refine codeAny_call_function hr.depth (KX _ _ lk) rfl S.co S.gen rfl (PySem.W.codeRec_of KX T.cdI) (hbd' _ _ _ _ ?_)
  refine wpAny_newFunctionEnv S.nocell (fun ⟨n, _⟩ hy => S.par n (List.of_mem_zip hy).1) (fun h₁ hns hsb => ⟨lim.fresh _ hsb, ?_⟩) S.kind
  let FN : NdefX.NF := ⟨name, qual, params, body, scope, [("__class__", cc)], cda⟩
  show codeAny _ _ (.func body (NdefX.envF FN f s.heap.objs.size)) _ _
  have kp : ∀ b o, s.heap.get? b = some o → h₁.get? b = some o := fun b o e => hsb.extBut b o (Nat.ne_of_lt (Heap.lt_size e)) (Heap.get?_push_of_some _ e)
  have hcc : s.heap.IsCell cc (some (.ref C)) := ⟨_, KX _ _ lcell, rfl⟩
  have look : ∀ y c, (([("__class__", cc)] : List (Str × Addr)).lookup y) = some c → y = "__class__" ∧ c = cc := fun y c e => by
    by_cases h : y = "__class__"
    · subst h
      simp [List.lookup] at e
      exact ⟨rfl, e.symm⟩
    · have : (y == ("__class__" : Str)) = false := beq_eq_false_iff_ne.mpr h
      simp [List.lookup, this] at e
  have CA : NdefX.CellsAt FN.cl ["__class__"] [some (.ref C)] s.heap H := by
    refine ⟨rfl, fun y c e => ?_, fun x y c e1 e2 => ?_, fun i y hi => ?_⟩
    · obtain ⟨_, e2⟩ := look y c e
      rw [e2]
      refine ⟨?_, _, hcc⟩
      exact (e0.bs cc _ (e0.mod.kin _ _ lcell)).2
    · exact (look x c e1).1.trans (look y c e2).1.symm
    · cases i with
      | zero =>
        have hi : some ("__class__" : Str) = some y := hi
        cases hi
        refine ⟨cc, rfl, fun v hv => ?_⟩
        have hv : some (some (V.ref C)) = some (some v) := hv
        cases hv
        exact ⟨_, rfl, hcc⟩
      | succ i => cases hi
  have I : L2.Inv (NdefX.ncx CX P w K mg base N FN f A outer s H E) [] (NdefX.startF N vs [some (.ref C)]) H { s with heap := h₁, toks := s.toks + (ps.zip us).length } := NdefX.inv_startN S hr.hd e0 hl r CA hns kp
  have hN0 : N[0]? = some ar.arg := by
    have hpre := S.pre
    cases ps with
    | nil => cases hp0
    | cons p ps' =>
      have : p = ar.arg := Option.some.inj hp0
      cases N with
      | nil => simp at hpre
      | cons n N' =>
        have e : n = p := by simp at hpre; exact hpre.1
        rw [e, this]; rfl
  obtain ⟨a, vs', rfl, ha⟩ := self _ _ _ _ hsp
  have hka : scope.names.lookup ar.arg = some .local := by
    cases ps with
    | nil => cases hp0
    | cons p ps' =>
      have : p = ar.arg := Option.some.inj hp0
      rw [← this]
      exact S.par p (List.mem_cons_self ..)
  refine PySem.ks_codeAny_funcAt ?_
  have tail : ∀ s2, L2.Inv (NdefX.ncx CX P w K mg base N FN f A outer s H E) [] (NdefX.startF N (.ref a :: vs') [some (.ref C)]) H s2 →
      wpAny (model P w) (A.deeper (NdefX.envF FN f s.heap.objs.size)) (execs rest (NdefX.envF FN f s.heap.objs.size)) (fun f s' => CR CX outer P w H s Q E (.ok (.ret (match f with | .ret v => v | _ => .none))) s')
        (fun e s' => wpAny (model P w) (A.deeper (NdefX.envF FN f s.heap.objs.size)) (leaving (NdefX.envF FN f s.heap.objs.size) e) (fun _ s'' => CR CX outer P w H s Q E (.error e) s'') (fun e' s'' => CR CX outer P w H s Q E (.error e') s'') s') s2 := fun s2 J => by
    have hz := hb (NdefX.ncx CX P w K mg base N FN f A outer s H E).nox _ H Q E ⟨rfl, rfl, rfl, rfl, rfl, rfl, rfl, rfl, hr.deeper _, PassesOwn.never, S.nd⟩ hsp
    have hz := (PSs.nox (zB_ok rest)).run [] s2 _ H { nx := fun _ H' => Q .non H', rt := Q } J hz
    refine wpAny_mono hz (fun fl s' hs => ?_) fun e s' hs => hs
    have fin : ∀ {σ' : L2.St} {H' : Hp} {v : V} {u : Value}, L2.Inv (NdefX.ncx CX P w K mg base N FN f A outer s H E) [] σ' H' s' → L2.RelV v u → Q v H' → CE outer P w H s Q u s' :=
      fun {σ' H' v u} J rv q => ⟨v, H', J.os, J.bare, J.base, J.hok, rv, q⟩
    cases fl with
    | ret u => obtain ⟨v, σ', H', J, rv, q⟩ := hs; exact fin J rv q
    | next => obtain ⟨σ', H', J, q⟩ := hs; exact fin (v := V.non) (u := Value.none) J rfl q
    | brk => obtain ⟨_, _, _, q⟩ := hs; exact False.elim q
    | cont => obtain ⟨_, _, _, q⟩ := hs; exact False.elim q
  have ent : execs body (NdefX.envF FN f s.heap.objs.size) = execs (.Expr (.Call (.Attribute (.Call (.Name "super" p0) [] [] p1) "__init__" p2) [.Constant (.str txt) j p3] [] p4) p5 :: rest) (NdefX.envF FN f s.heap.objs.size) := by rw [hbd]
  rw [ent]
  refine PySem.ks_wpAt_execs_cons (PySem.ks_wpAt_Expr_any (sup_init (X := NdefX.ncx CX P w K mg base N FN f A outer s H E) (i := 0) T I rfl rfl rfl rfl hmg hks (S.frk _ (by simp)) hp hka hN0 rfl ha (fun v s2 J => wpAt_of_wpAny (tail s2 J)) (he _)) ?_)
  show (scope.kind == .module && _) = false
  rw [S.kind]
  rfl
end
end Z

/-! errors caught: clauses with tuples of classes, "as" names -/
namespace Z
open PySem L2
section
variable {M : Model} {A : Around} {s : Shared} {β α : Type} {E : Value → Shared → Prop} {Q : α → Shared → Prop} {K : PySem.W.Frag}
theorem loopA {cs : List Value} {body : Value → β → Sem (ForInStep β)} {i0 : β} {k : β → Sem α} (h : ∀ c ∈ cs, ∀ Q' : ForInStep β → Shared → Prop, Q' (.yield i0) s → wpAny M A (body c i0) Q' E s) (hk : wpAny M A (k i0) Q E s) : wpAny M A (forIn cs i0 body >>= k) Q E s := by
  induction cs with
  | nil => rw [List.forIn_nil]; exact wpAny_bind (wpAny_pure hk)
  | cons c r ih =>
    rw [List.forIn_cons, bind_assoc]
    refine wpAny_bind (h c (List.mem_cons_self ..) _ ?_)
    exact ih fun d hd => h d (List.mem_cons_of_mem _ hd)
theorem loopB {cs : List Value} {body : Value → β → Sem (ForInStep β)} {i0 i1 : β} {k : β → Sem α} (v : Value → Bool) (h : ∀ c ∈ cs, ∀ Q' : ForInStep β → Shared → Prop, Q' (if v c = true then .done i1 else .yield i0) s → wpAny M A (body c i0) Q' E s)
    (hk : wpAny M A (k (if cs.any v = true then i1 else i0)) Q E s) : wpAny M A (forIn cs i0 body >>= k) Q E s := by
  induction cs with
  | nil => rw [List.forIn_nil]; exact wpAny_bind (wpAny_pure hk)
  | cons c r ih =>
    rw [List.forIn_cons, bind_assoc]
    refine wpAny_bind (h c (List.mem_cons_self ..) _ ?_)
    rw [List.any_cons] at hk
    cases hv : v c with
    | true =>
      rw [hv] at hk
      exact wpAny_bind (wpAny_pure (by simpa using hk))
    | false =>
      rw [hv] at hk
      exact ih (fun d hd => h d (List.mem_cons_of_mem _ hd)) (by simpa using hk)
def exmV (K : PySem.W.Frag) (cls c : Value) : Bool := (PySem.W.exmOne K cls c).getD false
theorem exm_some {cls : Value} : ∀ {cs : List Value} {b : Bool}, PySem.W.exmAny K cls cs = some b → (∀ c ∈ cs, PySem.W.exmOne K cls c = some (exmV K cls c)) ∧ b = cs.any (exmV K cls)
  | [], b, h => by
    have h : some false = some b := h
    cases h
    exact ⟨fun c hc => by (cases hc), rfl⟩
  | c :: r, b, h => by
    obtain ⟨b1, d1, h1, h2, rfl⟩ := PySem.W.exmAny_cons h
    obtain ⟨h3, rfl⟩ := exm_some h2
    have e : exmV K cls c = b1 := by unfold exmV; rw [h1]; rfl
    refine ⟨fun d hd => ?_, by rw [List.any_cons, e]⟩
    rcases List.mem_cons.mp hd with rfl | hd
    · rw [h1, e]
    · exact h3 d hd
/-- a tuple of classes that an except clause names -/
theorem exm_tups {cs : List Value} {cls : Value} {tp e : Addr} {o : Obj} {n : Nat} {b : Bool} {h : Heap} (X : K.In h) (LT : PySem.W.Looks M h (typeOf (.ref e)) cls) (hp : h.get? tp = some o) (hc : o.cls = .type "tuple") (hd : o.data = .seq cs.toArray n) (hx : PySem.W.exmAny K cls cs = some b) :
    PySem.W.Looks M h (excMatches (.ref e) (.ref tp)) b := by
  intro A Q E s kk q
  obtain ⟨h1, rfl⟩ := exm_some hx
  have isT : PySem.W.Looks M h (isInstance (.ref tp) (.type "tuple")) true := PySem.W.Looks.andThen (a := .type "tuple") (fun A Q E s k q => wpAny_typeOf_ref (k _ _ hp) (by rw [hc]; exact q)) (PySem.W.Looks.of_pure isSubtype_tuple_tuple)
  have cl : ∀ c ∈ cs, PySem.W.Looks M h (isExcClass c) true ∧ PySem.W.Looks M h (isSubtype cls c) (exmV K cls c) := fun c hc => PySem.W.exm_cls X (h1 c hc)
  have hp' := kk _ _ hp
  unfold excMatches
  refine wpAny_bind (isT A _ E s kk ?_)
  dsimp only
  rw [if_pos rfl]
  refine wpAny_bind (wpAny_seqItems hp' hd ?_)
  show wpAny M A (forIn cs _ _ >>= _) Q E s
  have hcs : ((some cs.toArray).getD #[]).toList = cs := rfl
  refine loopA (fun c hm Q' q' => wpAny_bind ((cl c hm).1 A _ E s kk ?_)) ?_
  · exact wpAny_pure q'
  refine wpAny_bind (LT A _ E s kk ?_)
  refine loopB (i1 := (some true, ())) (exmV K cls) (fun c hm Q' q' => wpAny_bind ((cl c hm).2 A _ E s kk ?_)) ?_
  · cases hv : exmV K cls c with
    | true => rw [hv] at q'; exact wpAny_pure q'
    | false => rw [hv] at q'; exact wpAny_pure q'
  · rw [hcs]
    cases hv : cs.any (exmV K cls) with
    | true => rw [hv] at q; exact wpAny_pure q
    | false => rw [hv] at q; exact wpAny_pure q
end

/-! ### try: body except (..) as n: suite .. -/
/-- what is behind the suite of a clause with a name in slot i -/
def offs (i : Nat) (D : Ends) : Ends := { nx := fun σ H => D.nx (σ.set i none) H, rt := D.rt, bk := fun σ H => D.bk (σ.set i none) H, ct := fun σ H => D.ct (σ.set i none) H }
abbrev Cl := List Value × (Addr → Value → Option Addr → TS)
/-- what the clauses wish of an error of the body (slot i: the name) -/
def wishes (K : PySem.W.Frag) (i : Nat) (Wout : WX) (D : Ends) : List Cl → WX
  | [] => Wout
  | c :: r => fun cls d σ H => ∃ b, PySem.W.exmAny K cls c.1 = some b ∧ (b = true → ∀ a, H a = none → c.2 a cls d (offs i D) (σ.set i (some (.ref a))) H) ∧ (b = false → wishes K i Wout D r cls d σ H)
/-- a clause's test names the classes cs -/
def TestOk (X : Cx) (te : Expr) (cs : List Value) : Prop := ∀ (a : Addr) (oe : Obj) (pn pins : List (Addr × Obj)) (σ : St) (H : Hp) (s : Shared) (Q : Value → Shared → Prop) (E : Value → Shared → Prop), Inv (X.suite a ((a, oe) :: pn)) pins σ H s →
  (∀ v h', (∀ b o, s.heap.get? b = some o → h'.get? b = some o) → (∀ cls b, PySem.W.exmAny X.K cls cs = some b → PySem.W.Looks (model X.prog X.w) h' (typeOf (.ref a)) cls → PySem.W.Looks (model X.prog X.w) h' (excMatches (.ref a) v) b) → Q v { s with heap := h' }) →
  wpAny (model X.prog X.w) (X.A.mark (some (.ref a))) (eval te X.env) Q E s
theorem exm_one1 {cls c : Value} {b : Bool} (h : PySem.W.exmAny K cls [c] = some b) : PySem.W.exmOne K cls c = some b := by
  obtain ⟨b1, d1, h1, h2, rfl⟩ := PySem.W.exmAny_cons h
  have h2 : some false = some d1 := h2
  cases h2
  rw [h1, Bool.or_false]
section
variable {X : Cx}
theorem name_raw {x : Str} {c : Value} {np : Pos} {a : Addr} {oe : Obj} {pn pins : List (Addr × Obj)} {σ : St} {H : Hp} {s : Shared} {Q : Value → Shared → Prop} {E : Value → Shared → Prop} (hn : Names X x c) (I : Inv (X.suite a ((a, oe) :: pn)) pins σ H s) (q : Q c s) :
    wpAny (model X.prog X.w) (X.A.mark (some (.ref a))) (eval (.Name x np) X.env) Q E s := by
  obtain ⟨h1, h2, h3 | ⟨h3, h4, h5⟩⟩ := hn
  · exact ld_glob (X := X.suite a ((a, oe) :: pn)) I h1 h3 q h2
  · exact ld_blt (X := X.suite a ((a, oe) :: pn)) I h1 h3 h4 q h5 h2
theorem test_one {x : Str} {c : Value} {np : Pos} (hn : Names X x c) : TestOk X (.Name x np) [c] := fun a oe pn pins σ H s Q E I h =>
  name_raw hn I (h c s.heap (fun _ _ z => z) fun cls b hb LT => PySem.W.exm_one I.kIn LT (exm_one1 hb))
inductive NamesOk (X : Cx) : List Expr → List Value → Prop
  | nil : NamesOk X [] []
  | cons {x : Str} {c : Value} {np : Pos} {es : List Expr} {cs : List Value} (hn : Names X x c) (hs : starEach (.Name x np :: es) X.env = (false, eval (.Name x np) X.env) :: starEach es X.env) (r : NamesOk X es cs) : NamesOk X (.Name x np :: es) (c :: cs)
theorem names_raw {es : List Expr} {cs : List Value} (h : NamesOk X es cs) {pos : Pos} {a : Addr} {oe : Obj} {pn pins : List (Addr × Obj)} {σ : St} {H : Hp} {s : Shared} {E : Value → Shared → Prop} (I : Inv (X.suite a ((a, oe) :: pn)) pins σ H s) :
    ∀ {Q : List Value → Shared → Prop}, Q cs s → wpAny (model X.prog X.w) (X.A.mark (some (.ref a))) (spliced (backTo pos (starEach es X.env))) Q E s := by
  have gen : ∀ {es cs}, NamesOk X es cs → ∀ {l : List (Bool × Sem Value)}, l = starEach es X.env → ∀ {Q : List Value → Shared → Prop}, Q cs s → wpAny (model X.prog X.w) (X.A.mark (some (.ref a))) (spliced l) Q E s ∧ wpAny (model X.prog X.w) (X.A.mark (some (.ref a))) (spliced (backTo pos l)) Q E s := by
    intro es cs hk
    induction hk with
    | nil =>
      intro l hl Q q
      have e0 : starEach ([] : List Expr) X.env = [] := rfl
      rw [hl, e0]
      exact ⟨Calls.spliced_nil q, Calls.spliced_nil q⟩
    | @cons x c np es cs hn hs r ih =>
      intro l hl Q q
      rw [hl, hs]
      refine ⟨Calls.spliced_cons (name_raw hn I (ih rfl q).1), ?_⟩
      show wpAny _ _ (spliced ((false, eval (.Name x np) X.env) :: backTo pos (starEach es X.env))) _ _ _
      exact Calls.spliced_cons (name_raw hn I (ih rfl q).2)
  exact fun {Q} q => (gen h rfl q).2
theorem test_tup {es : List Expr} {cs : List Value} {kk : Nat} {pos : Pos} (h : NamesOk X es cs) (hz : cs.length ≤ sizeLine) : TestOk X (.Tuple es kk pos) cs := fun a oe pn pins σ H s Q E I q => by
  refine PyProof.Rows.Tuple_ (names_raw h I ?_)
  refine wpAny_newObj_type ?_ (by show cs.toArray.size ≤ sizeLine; rw [List.size_toArray]; exact hz)
  have kk2 : ∀ b o, s.heap.get? b = some o → (s.heap.push { cls := .type "tuple", data := .seq cs.toArray }).get? b = some o := fun b o z => Heap.get?_push_of_some _ z
  refine q _ _ kk2 fun cls b hb LT => ?_
  exact exm_tups (I.kept (t' := s.toks) kk2).kIn LT (Heap.get?_push_at rfl rfl) rfl rfl hb
inductive Hds (X : Cx) (n : Str) : List ExceptHandler → List Cl → Prop
  | nil : Hds X n [] []
  | cons {te : Expr} {cs : List Value} {ts : Addr → Value → Option Addr → TS} {b₀ : Stmt} {suite : List Stmt} {pos' : Pos} {hds : List ExceptHandler} {l : List Cl} (ht : TestOk X te cs)
      (hsu : ∀ (a : Addr) (oe : Obj) (cls : Value) (d : Option Addr) (pn : List (Addr × Obj)), Zc cls d oe → (∃ vs, oe.data = .fields vs) → PSs (X.suite a ((a, oe) :: pn)) (b₀ :: suite) (ts a cls d)) (r : Hds X n hds l) :
      Hds X n (.ExceptHandler (some te) (some n) (b₀ :: suite) pos' :: hds) ((cs, ts) :: l)
theorem fly_more {B h h' : Heap} {l : List Env} {a : Addr} {Zp : Obj → Prop} (f : PySem.HandSPX.FlyingZ B l a Zp h) (k : ∀ b o, h.get? b = some o → h'.get? b = some o) : PySem.HandSPX.FlyingZ B l a Zp h' := by
  obtain ⟨f1, f2, f3, oe, vs, T, oT, ts, x1, x2, x3, x4, x5, x6, x7, x8, x9⟩ := f
  exact ⟨fun b o z => k b o (f1 b o z), f2, f3.of_keeps fun b o z _ => ⟨o, k b o z, rfl⟩, oe, vs, T, oT, ts, k _ _ x1, x2, x3, x4, x5, x6, k _ _ x7, x8, x9⟩
theorem ps_catch {n : Str} {i : Nat} {body : List Stmt} {h₀ : ExceptHandler} {hds : List ExceptHandler} {l : List Cl} {pos : Pos} {tb : WX → TS} {Wout : WX} (hs : X.stack = X.env :: X.outer) (hf : X.env.frame = some X.env.locals) (hN : X.N.Nodup) (hi : X.N[i]? = some n) (hln : X.env.kindOf n = some .local) (tk : Takes X Wout)
    (hb : ∀ (W : WX) (pn : List (Addr × Obj)) (xe : Value → Shared → Prop), Takes (X.tr pn xe) W → PassesOwn (model X.prog X.w) X.A X.env xe → PSs (X.tr pn xe) body (tb W))
    (hh : Hds X n (h₀ :: hds) l) : PS X (.Try body (h₀ :: hds) [] [] pos) (fun D σ H => tb (wishes X.K i Wout D l) D σ H) := by
  refine ⟨fun pins s σ H D I h => ?_⟩
  have okX := I.ok
  have hfrs : X.A.frames = some (X.env :: X.outer) := by rw [okX.frames, hs]
  have hlocn : Loc X.env.scope n := .inl hln
  refine wpAny_Try_except ?_
  refine wpAny_mono ((hb (wishes X.K i Wout D l) (X.pn ++ pins) (fun e1 s1 => wpAny (model X.prog X.w) X.A (noteFrame e1 X.env) (fun _ s2 => wpAny (model X.prog X.w) X.A (setFlight e1 none) (fun _ s3 => wpAny (model X.prog X.w) X.A (handleBy e1 X.env (h₀ :: hds)) (SP X pins D) X.xe s3) X.xe s2) X.xe s1)
    (fun u s' air => ?_) PassesOwn.looking).run [] s σ H D (I.toTry _) h) (fun fl s1 hsp => ?_) (fun e1 s1 he => he)
  · obtain ⟨a, B, sI, pins1, σ1, H1, cls, d, rfl, Jt, nb, up, sky, na, os, ag, wi⟩ := air
    have J : Inv X pins σ1 H1 sI := Jt.ofTry okX
    have sky1 : Sky B (X.env :: X.outer) a (Zc cls d) X.env.locals s'.heap := by rw [← hs]; exact sky
    show wpAny (model X.prog X.w) X.A (noteFrame (.ref a) X.env) _ _ _
    refine Sky.land Zc.steady hfrs hf sky1 fun h3 fl3 up3 => ?_
    -- the clauses, one after the other; the heap grows by what the tests make
    have walk : ∀ {hds' : List ExceptHandler} {l' : List Cl}, Hds X n hds' l' → ∀ (h3 : Heap), PySem.HandSPX.FlyingZ B (X.env :: X.outer) a (Zc cls d) h3 → sI.heap.UpToSlots h3 → wishes X.K i Wout D l' cls d σ1 H1 →
        wpAny (model X.prog X.w) X.A (handleBy (.ref a) X.env hds') (SP X pins D) X.xe { s' with heap := h3 } := by
      intro hds' l' hk
      induction hk with
      | nil =>
        intro h3 fl3 up3 wi
        refine wpAny_handleBy_nil ?_
        obtain ⟨y1, y2, y3, oe, vs, T, oT, ts', he, hz, hd, h1, hr⟩ := id fl3
        unfold PySem.passOn
        refine wpAny_bind (wpAny_field he hd h1 ?_)
        rw [if_neg (show ¬ ((Value.ref T == Value.none) = true) from by simp)]
        have goes : wpAny (model X.prog X.w) X.A (setFlight (.ref a) X.env.frame) (fun _ s4 => wpAny (model X.prog X.w) X.A (throw (.ref a) : Sem Flow) (SP X pins D) X.xe s4) X.xe { s' with heap := h3 } := by
          rw [hf]
          refine PySem.HandSPX.setFlight_upZ fl3 fun h4 held up4 => wpAny_throw (tk _ _ ?_)
          exact ⟨a, B, sI, pins, σ1, H1, cls, d, rfl, J, nb, up3.trans up4, .inr (.inr (by rw [hs]; exact held)), na, os, ag, wi⟩
        exact wpAny_bind goes
      | @cons te cs ts b₀ suite pos' hds2 l2 ht hsu r ih =>
        intro h3 fl3 up3 wi
        obtain ⟨b, hb1, hyes, hno⟩ := wi
        have J3 : Inv X pins σ1 H1 { s' with heap := h3 } := J.landed nb fl3.1 up3 os ag
        obtain ⟨oe3, vs3, he3, hz3, hd3⟩ := fl3.there
        have nofr : a ∉ frs (X.env :: X.outer) := fun hm => by
          obtain ⟨_, o2, e2, hnf⟩ := fl3.2.2.1.mem hm
          rw [he3] at e2; cases e2
          exact hnf _ hd3
        have nL : a ≠ X.env.locals := fun z => nofr (List.mem_filterMap.mpr ⟨X.env, List.mem_cons_self, by rw [hf, z]⟩)
        have nF : a ∉ X.fs := fun hm => by
          obtain ⟨e2, he2, q⟩ := List.mem_filterMap.mp hm
          exact nofr (List.mem_filterMap.mpr ⟨e2, List.mem_cons_of_mem _ he2, q⟩)
        have S3 := J3.suite he3 hd3 na nL nF
        refine wpAny_handleBy_cons (codeAny_handlers_test ?_) (by intro q; cases q)
        refine ht a oe3 (X.pn ++ pins) [] σ1 H1 { s' with heap := h3 } _ _ S3 fun v h4 k4 mat => ?_
        have fl4 := fly_more fl3 k4
        have up4 : sI.heap.UpToSlots h4 := up3.trans (Heap.UpToSlots.of_keeps k4)
        have he4 := k4 _ _ he3
        have LT : PySem.W.Looks (model X.prog X.w) h4 (typeOf (.ref a)) cls := fun A Q E s k q => wpAny_typeOf_ref (k _ _ he4) (by rw [hz3.1]; exact q)
        refine (mat cls b hb1 LT).here ?_
        cases b with
        | true =>
          refine codeAny_handlers_suite_as ?_
          refine PySem.HandSPX.lands_againZ fl4 fun h5 fl5 up5 => ?_
          have J5 : Inv X pins σ1 H1 { s' with heap := h5 } := J.landed nb fl5.1 (up4.trans up5) os ag
          obtain ⟨oe5, vs5, he5, hz5, hd5⟩ := fl5.there
          have S5 := J5.suite he5 hd5 na nL nF
          refine store_ok (X := X.suite a ((a, oe5) :: (X.pn ++ pins))) (v := .ref a) S5 hN hi hlocn rfl (fun s6 S6 => ?_) (.inr hln)
          refine wpAny_mono ((hsu a oe5 cls d (X.pn ++ pins) hz5 ⟨_, hd5⟩).run [] s6 _ H1 _ S6 (hyes rfl a na)) (fun f s7 hsp => ?_) (fun _ _ z => False.elim z)
          have fin : ∀ {σ7 : St} {H7 : Hp} {Q : Shared → Prop}, Inv (X.suite a ((a, oe5) :: (X.pn ++ pins))) [] σ7 H7 s7 → (∀ s8, Inv X pins (σ7.set i none) H7 s8 → Q s8) →
              wpAny (model X.prog X.w) X.A (do bindName X.env n .none; unbindBehindTheSuite X.env n pos') (fun _ s8 => Q s8) X.xe s7 := fun {σ7 H7 Q} S7 hq => gone_ok (S7.unsuite okX) hN hi hln hq
          cases f with
          | next => obtain ⟨σ7, H7, S7, q7⟩ := hsp; exact fin S7 fun s8 J8 => ⟨_, _, J8, q7⟩
          | brk => obtain ⟨σ7, H7, S7, q7⟩ := hsp; exact fin S7 fun s8 J8 => ⟨_, _, J8, q7⟩
          | cont => obtain ⟨σ7, H7, S7, q7⟩ := hsp; exact fin S7 fun s8 J8 => ⟨_, _, J8, q7⟩
          | ret u => obtain ⟨v7, σ7, H7, S7, r7, q7⟩ := hsp; exact fin S7 fun s8 J8 => ⟨_, _, _, J8, r7, q7⟩
        | false =>
          show wpAny _ X.A (handleBy (.ref a) X.env hds2) _ _ _
          exact ih h4 fl4 up4 (hno rfl)
    exact walk hh h3 fl3 (up.trans up3) wi
  · cases fl with
    | next => obtain ⟨σ1, H1, J1, q⟩ := hsp; exact wpAny_execs_nil ⟨σ1, H1, J1.ofTry okX, q⟩
    | brk => obtain ⟨σ1, H1, J1, q⟩ := hsp; exact ⟨σ1, H1, J1.ofTry okX, q⟩
    | cont => obtain ⟨σ1, H1, J1, q⟩ := hsp; exact ⟨σ1, H1, J1.ofTry okX, q⟩
    | ret u => obtain ⟨v, σ1, H1, J1, r, q⟩ := hsp; exact ⟨v, σ1, H1, J1.ofTry okX, r, q⟩
end
end Z

/-! defs that raise; calls of them; own errors raised; a caught error's fields; a lambda handed over -/
namespace Z
open PySem L2
abbrev WE (E : XK) : WX := fun cls d _ H => E cls d H
section
variable {X : Cx} {P : Program} {w : World} {K : PySem.W.Frag} {mg : Str → Option Value} {base : Heap} {N : List Str} {sc : Scope} {k : Nat}
variable {σ : St} {H : Hp} {nx bk ct : St → Hp → Prop} {rt : VK} {Q : VK}
/-- the slots' number is known where an error flies -/
theorem takes_len {W : WX} (tk : Takes X W) : Takes X (fun cls d σ H => σ.length = X.N.length → W cls d σ H) := fun u s' ⟨a, B, sI, pins, σ, H, cls, d, e, I, nb, up, sky, na, os, ag, wi⟩ => tk u s' ⟨a, B, sI, pins, σ, H, cls, d, e, I, nb, up, sky, na, os, ag, wi I.len⟩
/-- the body of a def that may raise -/
theorem fn_okR {x : Str} {st : Stmt} {dvs : List V} {kws : List (Str × V)} {f : Addr} {fd : FuncData} {ps : List Str} {sp : Sp}
    (F : FunD K x x (defArgs st) (defBody st) (defScope st) dvs kws f fd) (S : FnScope N ps (defScope st)) (len : ∀ vs H Q E, sp vs H Q E → vs.length = ps.length)
    (body : ∀ X vs H Q E, Ctx X P w K mg base N (defScope st) k → (∀ y, X.fn y = true) → Takes X (WE E) → X.env.code = fd.code → X.env.qual = x ++ ".<locals>." → sp vs H Q E → zB X (defBody st) (fun _ H' => Q .non H') Q (fun _ _ => False) (fun _ _ => False) (start N vs) H) :
    FnOk P w K mg base (L2.CX P w) (k + 1) f fd ps sp := by
  obtain ⟨oc, od, dV, kV, doc, pm, an, cdv, ct, osl, rfl, lk, hcd, _, _⟩ := F.ex
  exact fn_of lk hcd S len fun A outer s H vs Q E hr h => ⟨_, zB_ok _, body _ vs H Q E ⟨rfl, rfl, rfl, rfl, rfl, rfl, rfl, rfl, hr, passes_of rfl, S.nd⟩ (fun _ => rfl) (takes_of rfl rfl rfl rfl) rfl rfl h⟩
/-- the body of a def that raises nothing, its code told -/
theorem fn_okC {x : Str} {st : Stmt} {dvs : List V} {kws : List (Str × V)} {f : Addr} {fd : FuncData} {ps : List Str} {sp : Sp}
    (F : FunD K x x (defArgs st) (defBody st) (defScope st) dvs kws f fd) (S : FnScope N ps (defScope st)) (len : ∀ vs H Q E, sp vs H Q E → vs.length = ps.length)
    (body : ∀ X vs H Q E, Ctx X P w K mg base N (defScope st) k → (∀ y, X.fn y = true) → X.env.code = fd.code → X.env.qual = x ++ ".<locals>." → sp vs H Q E → zB X (defBody st) (fun _ H' => Q .non H') Q (fun _ _ => False) (fun _ _ => False) (start N vs) H) :
    FnOk P w K mg base CX0 (k + 1) f fd ps sp := by
  obtain ⟨oc, od, dV, kV, doc, pm, an, cdv, ct, osl, rfl, lk, hcd, _, _⟩ := F.ex
  exact fn_of lk hcd S len fun A outer s H vs Q E hr h => ⟨_, PSs.nox (zB_ok _), body _ vs H Q E ⟨rfl, rfl, rfl, rfl, rfl, rfl, rfl, rfl, hr, PassesOwn.never, S.nd⟩ (fun _ => rfl) rfl rfl h⟩
/-- a call of a def that may raise, where its errors pass -/
theorem e_calR (C : Ctx X P w K mg base N sc k) {x : Str} {j n : Nat} {sp : Sp} {E : XK} {e : Expr} {es : List Expr} {p pos : Pos} (c : Cal P w K mg base (L2.CX P w) x j n sp) (tk : Takes X (WE E)) (hj : j ≤ k)
    (h : zA X (e :: es) σ H fun vs H1 => sp vs H1 Q E) (hg : gloB sc x = true := by decide +kernel) (hdb : (x == ("__debug__" : Str)) = false := by decide)
    (he : starEach (e :: es) X.env = (false, eval e X.env) :: starEach es X.env := by rfl) (hpl : (backTo pos (starEach es X.env)).any (·.1) = false := by rfl) : zE X (.Call (.Name x p) (e :: es) [] pos) σ H Q :=
  e_cal (E := E) C c hj (fun pins σ H s e s' I z => passes_call (W := WE E) tk (fun _ _ _ _ h => h) pins σ H s e s' I (by rw [C.prog, C.wld]; exact z)) h hg hdb he hpl
/-- .. where it raises nothing -/
theorem e_calN (C : Ctx X P w K mg base N sc k) {x : Str} {j n : Nat} {sp : Sp} {e : Expr} {es : List Expr} {p pos : Pos} (c : Cal P w K mg base (L2.CX P w) x j n sp) (hj : j ≤ k)
    (h : zA X (e :: es) σ H fun vs H1 => sp vs H1 Q E0) (hg : gloB sc x = true := by decide +kernel) (hdb : (x == ("__debug__" : Str)) = false := by decide)
    (he : starEach (e :: es) X.env = (false, eval e X.env) :: starEach es X.env := by rfl) (hpl : (backTo pos (starEach es X.env)).any (·.1) = false := by rfl) : zE X (.Call (.Name x p) (e :: es) [] pos) σ H Q :=
  e_cal (E := E0) C c hj (fun pins σ H s e s' I z => passL (X := X) pins σ H s e s' I (by rw [C.prog, C.wld]; exact z)) h hg hdb he hpl
/-- self.f = e, self an error that is being made -/
theorem s_ost {o e : Expr} {f : Str} {p' pos : Pos} (h : zE X e σ H fun y H1 => zE X o σ H1 fun x H2 => ∃ a C : Addr, x = .ref a ∧ OexC X.K C ∧ PySem.W.findIn X.K (.ref C) f = some none ∧
      ((H2 a = some (exo a C none) ∧ ∀ dx, H2 dx = none → dx ≠ a → nx σ (upd (upd H2 dx (exd dx [(f, y)])) a (exo a C (some dx)))) ∨
        ∃ (dx : Addr) (fs : List (Str × V)), H2 a = some (exo a C (some dx)) ∧ H2 dx = some (exd dx fs) ∧ fs.length ≤ 900 ∧ nx σ (upd H2 dx (exd dx ((f, y) :: fs)))))
    (hs : swapsWith e (some (.Attribute o f p')) pos.line X.env = pure false := by rfl) : zS X (.Assign [.Attribute o f p'] e pos) nx rt bk ct σ H := zS_of (ps_ost (zE_ok o) (zE_ok e) hs) h
/-- an own error's class x, at CA: made with one value, it bears the fields fld, tag -/
structure ExK (P : Program) (w : World) (K : PySem.W.Frag) (mg : Str → Option Value) (base : Heap) (x : Str) (CA : Addr) (fs : V → List (Str × V)) : Prop where
  ox : OexC K CA
  gl : mg x = some (.ref CA)
  ini : ∃ (fI : Addr) (fd : FuncData) (ps : List Str), PySem.W.findIn K (.ref CA) "__init__" = some (some (.ref fI)) ∧ PySem.W.typeIn K (.ref fI) = some (.type "function") ∧ Binds K fd ps [] ∧
    FnOk P w K mg base CX0 1 fI fd ps (fun vs H Q _ => ∃ a y, vs = [.ref a, y] ∧ H a = some (exo a CA none) ∧ ∀ dx, H dx = none → dx ≠ a → Q .non (upd (upd H dx (exd dx (fs y))) a (exo a CA (some dx))))
/-- raise x(e) -/
theorem s_raise {x : Str} {CA : Addr} {fs : V → List (Str × V)} {W : WX} {e : Expr} {p pos pos' : Pos} (C : Ctx X P w K mg base N sc k) (xk : ExK P w K mg base x CA fs) (tk : Takes X W) (hk : 2 ≤ k)
    (h : zE X e σ H fun v H1 => ∀ d, H1 d = none → W (.ref CA) (some d) σ (upd H1 d (.xd (fs v)))) (hg : gloB sc x = true := by decide +kernel) (hdb : (x == ("__debug__" : Str)) = false := by decide)
    (he : starEach [e] X.env = (false, eval e X.env) :: starEach [] X.env := by rfl) (hpl : (backTo pos (starEach [] X.env)).any (·.1) = false := by rfl) : zS X (.Raise (some (.Call (.Name x p) [e] [] pos)) none pos') nx rt bk ct σ H := by
  obtain ⟨fI, fd, ps, h1, h2, h3, F⟩ := xk.ini
  have hgl := C.gl hg
  obtain ⟨rfl, rfl, rfl, rfl, rfl, rfl, rfl, hc, hr, _, _⟩ := C
  refine zS_of (ps_raise hc tk (pmk_oex xk.ox h1 h2 F (hr.mono hk) h3 .nil pass0' hgl xk.gl (zA_ok [e]) hdb he hpl)) ?_
  refine a_cons (zE_mono h fun v H1 q => a_nil ?_) he
  refine ⟨by show 1 ≤ 1000; decide, fun a ha => ⟨a, v, rfl, upd_same, fun dx hd hda => ⟨rfl, dx, fs v, upd_same, ?_, ?_, ?_⟩⟩⟩
  · rw [upd_ne hda, upd_same]
  · rw [upd_ne hda] at hd; exact hd
  · have hd' : H1 dx = none := by rw [upd_ne hda] at hd; exact hd
    have e1 : upd (del (upd (upd (upd H1 a (exo a CA none)) dx (exd dx (fs v))) a (exo a CA (some dx))) a) dx (.xd (fs v)) = upd H1 dx (.xd (fs v)) := by
      funext b
      by_cases hb : b = dx
      · subst hb; rw [upd_same, upd_same]
      · rw [upd_ne hb, upd_ne hb]
        by_cases hba : b = a
        · subst hba; rw [del_same, ha]
        · rw [del_ne hba, upd_ne hba, upd_ne hb, upd_ne hba]
    rw [e1]
    exact q dx hd'
where pass0' {X : Cx} {E : XK} : Passes CX0 X E := fun _ _ _ _ _ _ _ h => h.elim
/-- e.f of the caught error a -/
theorem e_xf {a CA : Addr} {oe : Obj} {cls : Value} {d : Option Addr} {pn : List (Addr × Obj)} {e : Expr} {pos : Pos} {f : Str} (T : XfC X.K CA) (hno : PySem.W.findIn X.K (.ref CA) f = some none) (hz : Zc cls d oe) (hf : ∃ vs, oe.data = .fields vs)
    (h : zE (X.suite a ((a, oe) :: pn)) e σ H fun x H1 => x = .ref a ∧ cls = .ref CA ∧ ∃ (dd : Addr) (fs : List (Str × V)) (v : V), d = some dd ∧ H1 dd = some (.xd fs) ∧ fs.lookup f = some v ∧ Q v H1)
    (hb : attributeBase e f X.env (eval e X.env) = eval e X.env := by rfl) : zE (X.suite a ((a, oe) :: pn)) (.Attribute e f pos) σ H Q := zE_of (pe_xf T hno hz hf (zE_ok e) hb) h
end
/-! ### a lambda handed to a def -/
/-- a body's reading, whatever the context -/
def zL (P : Program) (w : World) (K : PySem.W.Frag) (mg : Str → Option Value) (base : Heap) (N : List Str) (sc : Scope) (k : Nat) (e : Expr) (E : XK) : TE := fun σ H Q => ∀ X, Ctx X P w K mg base N sc k → Takes X (WE E) → zE X e σ H Q
/-- what is known where a def with lambdas runs: its code object c, the table T of its code objects -/
structure LamT (X : Cx) (c T : Addr) : Prop where
  tb : LamX.TabB X.base X.mg c T
  code : X.env.code = .ref c
/-- the def that gets a lambda: TT is what it makes of the lambda's reading -/
structure Gets (P : Program) (w : World) (K : PySem.W.Frag) (mg : Str → Option Value) (base : Heap) (x : Str) (j : Nat) (TT : (XK → Hp → VK → Prop) → Hp → VK → Prop) : Prop where
  ex : ∃ (g : Addr) (fd : FuncData) (pg : Arguments) (bg : List Stmt) (sg : Scope) (a : Str) (Ng : List Str), FunD K x x pg bg sg [] [] g fd ∧ mg x = some (.ref g) ∧ Binds K fd [a] [] ∧ FnScope Ng [a] sg ∧ Ng[0]? = some a ∧ Vis sg a ∧ (a == ("__debug__" : Str)) = false ∧ (a == ("__classdict__" : Str)) = false ∧
    ∀ X : Cx, X.prog = P → X.w = w → X.K = K → X.mg = mg → X.base = base → Room (j + 1) X.A → ∀ (cdv : Value) (q : Str), LamX.GivesTo X Ng x sg g cdv bg a q TT
theorem e_lam {X : Cx} {P : Program} {w : World} {K : PySem.W.Frag} {mg : Str → Option Value} {base : Heap} {N : List Str} {sc : Scope} {k j : Nat} {σ : St} {H : Hp} {Q : VK} {c T : Addr} {x : Str} {TT : (XK → Hp → VK → Prop) → Hp → VK → Prop} {params : Arguments} {body : Expr} {scope : Scope} {p lpos pos : Pos}
    (C : Ctx X P w K mg base N sc k) (L : LamT X c T) (G : Gets P w K mg base x j TT) (hj : j + 2 ≤ k) (hl : LamX.lamSB sc scope = true) (hT : LamX.Tabs [(T, X.env.qual ++ "<lambda>")] H)
    (h : ∀ H1, LamX.ExtN H H1 → LamX.Tabs [(T, X.env.qual ++ "<lambda>")] H1 → TT (fun E H' Q' => zL P w K mg base N scope j body E σ H' Q') H1 Q)
    (hdef : defaultsOf params X.env = ([], []) := by rfl)
    (hbind : ∀ (q : Str) (cl : List (Str × Addr)) (pm cv ctv : Value), bindArgs (PySem.W.kla_fn "<lambda>" q params body scope cl pm cv ctv) ⟨[], []⟩ = pure [] := by intros; rfl)
    (hg : gloB sc x = true := by decide +kernel) (hdb : (x == ("__debug__" : Str)) = false := by decide) : zE X (.Call (.Name x p) [.Lambda params body scope lpos] [] pos) σ H Q := by
  obtain ⟨g, fd, pg, bg, sg, a, Ng, F, gm, hb, S, hN, hv, hd, hcd, GT⟩ := G.ex
  obtain ⟨oc, od, dV, kV, doc, pm, an, cdv, ct, osl, rfl, lk, hcg, _, _⟩ := F.ex
  have hgl := C.gl hg
  obtain ⟨rfl, rfl, rfl, rfl, rfl, rfl, rfl, hc, hr, _, nd⟩ := C
  refine zE_of (LamX.pe_lamcall (T := [(T, X.env.qual ++ "<lambda>")]) (t := fun E => zL X.prog X.w X.K X.mg X.base X.N scope j body E) hgl gm F.kp lk hcg hb S hN hv (GT X rfl rfl rfl rfl rfl (hr.mono (by omega)) cdv _) L.tb L.code (List.mem_singleton.mpr rfl)
    (fun p hp _ => by rw [List.mem_singleton.mp hp]) (hr.mono hj) (LamX.lamS_by hl) hdef hbind (fun A outer s H E f c' hr2 => ?_) hdb hd hcd) ⟨hT, h⟩
  refine ⟨fun pins s' σ' H' Q' I q => (zE_ok body).run pins s' σ' H' Q' I (q _ ⟨rfl, rfl, rfl, rfl, rfl, rfl, rfl, rfl, hr2, passes_of rfl, nd⟩ (takes_of rfl rfl rfl rfl))⟩
end Z

/-! isinstance, all, any, sum, min, max, zip -/
namespace Z
open PySem L2
/-- the kinds of data, and which is which -/
def kinds : List String := ["NoneType", "bool", "int", "str", "list", "tuple"]
def subT (T U : String) : Bool := T == U || (T == "bool" && U == "int")
theorem kit_sub {K : PySem.W.Frag} {T U : String} (hT : T ∈ kinds) (hU : U ∈ ["bool", "int", "str", "list", "tuple"]) : PySem.W.kitOne K (.type T) (.type U) = some (subT T U) := by
  simp only [kinds, List.mem_cons, List.not_mem_nil, or_false] at hT hU
  rcases hT with rfl | rfl | rfl | rfl | rfl | rfl <;> rcases hU with rfl | rfl | rfl | rfl | rfl <;> kernel_rfl
section
variable {X : Cx} {P : Program} {w : World} {K : PySem.W.Frag} {mg : Str → Option Value} {base : Heap} {N : List Str} {sc : Scope} {k : Nat}
variable {σ : St} {H : Hp} {Q : VK} {R : It → Hp → Prop} {a b : Expr} {p p2 pos tpos : Pos} {U : Str} {u : String} {elts : List Expr} {kk : Nat}
theorem e_bltn {x : Str} {v : V} {u : Value} (hg : Gl X x) (hm : X.mg x = none) (hv : bootBuiltins x = some u) (r : RelV v u) (h : Q v H) (hn : x ≠ "__name__" := by decide) (hd : (x == ("__debug__" : Str)) = false := by decide) : zE X (.Name x pos) σ H Q := zE_of (pe_bltn hg hm hv r hn hd) h
/-- isinstance(a, U), U a built-in kind -/
theorem e_isi (C : Ctx X P w K mg base N sc k) (hm : mg "isinstance" = none) (hU : mg (Str.ofString u) = none) (h : zE X a σ H fun v H1 => ∃ T, TyX X.K H1 v (.type T) ∧ T ∈ kinds ∧ Q (.bl (subT T u)) H1) (hu : u ∈ ["bool", "int", "str", "list", "tuple"] := by decide) (hv : bootBuiltins (Str.ofString u) = some (.type u) := by decide +kernel)
    (hg : gloB sc "isinstance" = true := by decide +kernel) (hg2 : gloB sc (Str.ofString u) = true := by decide +kernel) (hn : Str.ofString u ≠ "__name__" := by decide) (hd : (Str.ofString u == ("__debug__" : Str)) = false := by decide)
    (he : starEach [a, .Name (Str.ofString u) p2] X.env = (false, eval a X.env) :: starEach [.Name (Str.ofString u) p2] X.env := by rfl) (he2 : starEach [.Name (Str.ofString u) p2] X.env = (false, eval (.Name (Str.ofString u) p2) X.env) :: starEach [] X.env := by rfl) (hpl : (backTo pos (starEach [.Name (Str.ofString u) p2] X.env)).any (·.1) = false := by rfl) :
    zE X (.Call (.Name "isinstance" p) [a, .Name (Str.ofString u) p2] [] pos) σ H Q := by
  refine e_callB (C.gl hg) (by rw [C.mgl]; exact hm) (by decide +kernel : bootBuiltins "isinstance" = some (.builtin "isinstance")) (a_cons (zE_mono h fun v H1 ⟨T, h1, h2, h3⟩ => a_cons (e_bltn (C.gl hg2) (by rw [C.mgl]; exact hU) hv (v := .ty u) rfl (a_nil ?_) hn hd) he2) he) (he := he) (hpl := hpl)
  exact zC_of call_isi ⟨v, .ty u, .type T, .type u, _, rfl, .ty u, h1, kit_sub h2 hu, h3⟩
theorem ty_non {R : String → Prop} (h : R "NoneType") : ∃ T, TyX K H .non (.type T) ∧ T ∈ kinds ∧ R T := ⟨"NoneType", .base .non, by decide, h⟩
theorem ty_bl {x : Bool} {R : String → Prop} (h : R "bool") : ∃ T, TyX K H (.bl x) (.type T) ∧ T ∈ kinds ∧ R T := ⟨"bool", .base (.bl x), by decide, h⟩
theorem ty_int {x : Int} {R : String → Prop} (h : R "int") : ∃ T, TyX K H (.int x) (.type T) ∧ T ∈ kinds ∧ R T := ⟨"int", .base (.int x), by decide, h⟩
theorem ty_str {x : Str} {R : String → Prop} (h : R "str") : ∃ T, TyX K H (.str x) (.type T) ∧ T ∈ kinds ∧ R T := ⟨"str", .base (.str x), by decide, h⟩
theorem ty_lst {x : Addr} {xs : List V} (hx : H x = some (.lst xs)) {R : String → Prop} (h : R "list") : ∃ T, TyX K H (.ref x) (.type T) ∧ T ∈ kinds ∧ R T := ⟨"list", .base (.lst hx), by decide, h⟩
theorem ty_tup {x : Addr} {xs : List V} (hx : H x = some (.tup xs)) {R : String → Prop} (h : R "tuple") : ∃ T, TyX K H (.ref x) (.type T) ∧ T ∈ kinds ∧ R T := ⟨"tuple", .base (.tup hx), by decide, h⟩
theorem if_ct {c : Bool} {A B : Prop} (hc : c = true) (h : A) : if c = true then A else B := by rw [if_pos hc]; exact h
theorem if_cf {c : Bool} {A B : Prop} (hc : c = false) (h : B) : if c = true then A else B := by rw [if_neg (by rw [hc]; decide)]; exact h
/-- a def that may be called -/
theorem cal_of {CX : CXT} {x : Str} {st : Stmt} {f : Addr} {fd : FuncData} {ps : List Str} {sp : Sp} {j : Nat} (F : FunD K x x (defArgs st) (defBody st) (defScope st) [] [] f fd) (ok : FnOk P w K mg base CX j f fd ps sp) (gm : mg x = some (.ref f))
    (hb : ∀ (kV doc pm : Value) (an : Option Addr) (cdv ct : Value) (us : List Value), us.length = ps.length → bindArgs (PySem.W.fnOf x x (defArgs st) (defBody st) (defScope st) .none kV doc pm an cdv ct) ⟨us, []⟩ = pure (ps.zip us)) : Cal P w K mg base CX x j ps.length sp :=
  ⟨f, fd, ps, ok, gm, F.kp, F.bindsN hb, rfl⟩
/-- a built-in of one value, by name -/
theorem e_b1 {x : Str} {id : String} (C : Ctx X P w K mg base N sc k) (hm : mg x = none) (hv : bootBuiltins x = some (.builtin id)) (h : zE X a σ H fun v H1 => zC X (.builtin id) [v] H1 Q) (hg : gloB sc x = true := by decide +kernel) (hn : x ≠ "__name__" := by decide) (hdb : (x == ("__debug__" : Str)) = false := by decide)
    (he : starEach [a] X.env = (false, eval a X.env) :: starEach [] X.env := by rfl) : zE X (.Call (.Name x p) [a] [] pos) σ H Q :=
  e_callB (C.gl hg) (by rw [C.mgl]; exact hm) hv (a_cons (zE_mono h fun v H1 q => a_nil q) he) hn hdb (he := he)
theorem e_all (C : Ctx X P w K mg base N sc k) (hm : mg "all" = none) (h : zE X a σ H fun v H1 => zC X (.builtin "all") [v] H1 Q) (hg : gloB sc "all" = true := by decide +kernel) (he : starEach [a] X.env = (false, eval a X.env) :: starEach [] X.env := by rfl) : zE X (.Call (.Name "all" p) [a] [] pos) σ H Q := e_b1 C hm (by decide +kernel) h hg (by decide) (by decide) he
theorem e_any (C : Ctx X P w K mg base N sc k) (hm : mg "any" = none) (h : zE X a σ H fun v H1 => zC X (.builtin "any") [v] H1 Q) (hg : gloB sc "any" = true := by decide +kernel) (he : starEach [a] X.env = (false, eval a X.env) :: starEach [] X.env := by rfl) : zE X (.Call (.Name "any" p) [a] [] pos) σ H Q := e_b1 C hm (by decide +kernel) h hg (by decide) (by decide) he
theorem e_sum (C : Ctx X P w K mg base N sc k) (hm : mg "sum" = none) (h : zE X a σ H fun v H1 => zC X (.builtin "sum") [v] H1 Q) (hg : gloB sc "sum" = true := by decide +kernel) (he : starEach [a] X.env = (false, eval a X.env) :: starEach [] X.env := by rfl) : zE X (.Call (.Name "sum" p) [a] [] pos) σ H Q := e_b1 C hm (by decide +kernel) h hg (by decide) (by decide) he
theorem e_min (C : Ctx X P w K mg base N sc k) (hm : mg "min" = none) (h : zE X a σ H fun v H1 => zC X (.builtin "min") [v] H1 Q) (hg : gloB sc "min" = true := by decide +kernel) (he : starEach [a] X.env = (false, eval a X.env) :: starEach [] X.env := by rfl) : zE X (.Call (.Name "min" p) [a] [] pos) σ H Q := e_b1 C hm (by decide +kernel) h hg (by decide) (by decide) he
theorem e_max (C : Ctx X P w K mg base N sc k) (hm : mg "max" = none) (h : zE X a σ H fun v H1 => zC X (.builtin "max") [v] H1 Q) (hg : gloB sc "max" = true := by decide +kernel) (he : starEach [a] X.env = (false, eval a X.env) :: starEach [] X.env := by rfl) : zE X (.Call (.Name "max" p) [a] [] pos) σ H Q := e_b1 C hm (by decide +kernel) h hg (by decide) (by decide) he
theorem c_all {l : Addr} {bs : List Bool} (hc : X.calm = true) (hl : SqL X.K H l (bs.map V.bl)) (h : Q (.bl (bs.all id)) H) : zC X (.builtin "all") [.ref l] H Q := zC_of (cr_all hc) ⟨l, bs, rfl, hl, h⟩
theorem c_any {l : Addr} {bs : List Bool} (hc : X.calm = true) (hl : SqL X.K H l (bs.map V.bl)) (h : Q (.bl (bs.any id)) H) : zC X (.builtin "any") [.ref l] H Q := zC_of (cr_any hc) ⟨l, bs, rfl, hl, h⟩
theorem c_sum {l : Addr} {ns : List Int} (hc : X.calm = true) (hl : SqL X.K H l (ns.map V.int)) (h : Q (.int ns.sum) H) : zC X (.builtin "sum") [.ref l] H Q := zC_of (cr_sum hc) ⟨l, ns, rfl, hl, h⟩
theorem c_max {l : Addr} {ns : List Int} (hc : X.calm = true) (hl : SqL X.K H l (ns.map V.int)) (h0 : ns ≠ []) (h : ∀ m, m ∈ ns → (∀ y, y ∈ ns → y ≤ m) → Q (.int m) H) : zC X (.builtin "max") [.ref l] H Q := zC_of (cr_max hc) ⟨l, ns, rfl, hl, List.length_pos_iff.mpr h0, h⟩
theorem c_min {l : Addr} {ns : List Int} (hc : X.calm = true) (hl : SqL X.K H l (ns.map V.int)) (h0 : ns ≠ []) (h : ∀ m, m ∈ ns → (∀ y, y ∈ ns → m ≤ y) → Q (.int m) H) : zC X (.builtin "min") [.ref l] H Q := zC_of (cr_min hc) ⟨l, ns, rfl, hl, List.length_pos_iff.mpr h0, h⟩
/-- zip of two lists, of two tuples -/
theorem i_zip {b : Expr} (C : Ctx X P w K mg base N sc k) (hm : mg "zip" = none) (h : zE X a σ H fun x H1 => zE X b σ H1 fun y H2 => ∃ i j xs ys, x = .ref i ∧ y = .ref j ∧ ((SqL X.K H2 i xs ∧ SqL X.K H2 j ys ∧ R (Itz X.K i j) H2) ∨ (SqT X.K H2 i xs ∧ SqT X.K H2 j ys ∧ R (RZ.ItzT X.K i j) H2))) (hg : gloB sc "zip" = true := by decide +kernel)
    (hs : starEach [a, b] X.env = (false, eval a X.env) :: starEach [b] X.env := by rfl) (hs2 : starEach [b] X.env = (false, eval b X.env) :: starEach [] X.env := by rfl) (hpl : (backTo pos (starEach [b] X.env)).any (·.1) = false := by rfl) :
    zI X (.Tuple elts kk tpos) (.Call (.Name "zip" p) [a, b] [] pos) σ H R :=
  zI_of (RZ.pi_zipA (C.gl hg) (by rw [C.mgl]; exact hm) (zA_ok [a, b]) hs hpl) (a_cons (zE_mono h fun x H1 h1 => a_cons (zE_mono h1 fun y H2 ⟨i, j, xs, ys, e1, e2, h2⟩ => a_nil ⟨i, j, xs, ys, by rw [e1, e2], h2⟩) hs2) hs)
/-- == and != of data of any depth -/
theorem o_eqD {x y : V} {d e : PyData} (C : Ctx X P w K mg base N sc k) (hd : Dp X.K H x d) (he : Dp X.K H y e) (sd : SeqAt.shaped d = true) (se : SeqAt.shaped e = true) (h : Q (.bl (PyData.eqv d e)) H) : zO X (compareOp .Eq) x y H Q := zO_of (op_eqD C.room.units) ⟨d, e, hd, he, sd, se, h⟩
theorem o_neD {x y : V} {d e : PyData} (C : Ctx X P w K mg base N sc k) (hd : Dp X.K H x d) (he : Dp X.K H y e) (sd : SeqAt.shaped d = true) (se : SeqAt.shaped e = true) (h : Q (.bl (!PyData.eqv d e)) H) : zO X (compareOp .NotEq) x y H Q := zO_of (op_neD C.room.units) ⟨d, e, hd, he, sd, se, h⟩
theorem dp_pair {t : Addr} {a b : V} {d e : PyData} (h : H t = some (.tup [a, b])) (h1 : Dp K H a d) (h2 : Dp K H b e) : Dp K H (.ref t) (.tuple [d, e]) := .tup (SqT.of h) (.cons h1 (.cons h2 .nil))
theorem dp_strs : ∀ {zs : List Str}, DpAll K H (zs.map V.str) (zs.map PyData.str)
  | [] => .nil
  | z :: zs => .cons (.str z) dp_strs
theorem dp_ints : ∀ {zs : List Int}, DpAll K H (zs.map V.int) (zs.map PyData.int)
  | [] => .nil
  | z :: zs => .cons (.int z) dp_ints
end
section
variable {X : Cx} {P : Program} {w : World} {K : PySem.W.Frag} {mg : Str → Option Value} {base : Heap} {N : List Str} {sc : Scope} {k : Nat} {σ : St} {H : Hp}
/-- [elt for x in it], of each item only R known -/
theorem comp_all {x : Str} {j : Nat} {px : Pos} {elt : Expr} {scope : Scope} {own : List Nat} {n : Nat} {S : Hp → Prop} {Y : Nat → V → Hp → Prop} (C : Ctx X P w K mg base N sc k) (R : V → Prop) (hn : n ≤ 100000) (hsrc : ∀ H', Ex H H' → S H')
    (h1 : N[j]? = some x) (h2 : lclB (relS scope sc) x = true) (hw : ∀ v, wipe ((wipe σ own).set j (some v)) own = wipe σ own)
    (he : ∀ i v H', i < n → Ex H H' → Y i v H' → ∀ X1, Ctx X1 P w K mg base N (relS scope sc) k → zE X1 elt ((wipe σ own).set j (some v)) H' fun y H4 => Ex H' H4 ∧ R y) :
    Comp X (.Name x px) elt [] scope own σ H n S Y (fun _ i ys _ => ys.length = i ∧ ∀ y ∈ ys, R y) where
  small := hn
  start := fun _ _ _ _ => ⟨rfl, fun _ z => by cases z⟩
  src := hsrc
  keep := fun _ _ _ _ _ _ h => h
  len := fun _ i ys _ h => by rw [h.1]; exact Nat.le_refl _
  turn := fun D i v ys H' hi hD e1 hl ha hy => gb_intro C fun X1 C1 => g_name (C1.ns h1 (by unfold locB; unfold lclB at h2; rw [h2]; rfl) (.inr h2)) ⟨hw v, Evl.Ex.refl _, fun _ _ _ _ _ => ts_nil ⟨Evl.Ex.refl _, if_pos rfl ▸ eb_intro C fun X2 C2 =>
    zE_mono (he i v H' hi e1 hy X2 C2) fun y H4 ⟨e4, q⟩ => ⟨e4, by rw [List.length_append, ha.1]; rfl, fun y' hy' => by
      rcases List.mem_append.mp hy' with z | z
      · exact ha.2 y' z
      · rw [List.mem_singleton.mp z]; exact q⟩⟩⟩
end
end Z

/-! the head: what the run of the program's top leaves, told by facts; own errors among them -/
namespace Z
open PySem L2
abbrev cA (K : PySem.W.Frag) (x : Str) : Addr := He.ga K x
abbrev iA (K : PySem.W.Frag) (x : Str) : Addr := He.ma K (He.ga K x) "__init__"
/-- the class object at C is one of an own error -/
def oexB (K : PySem.W.Frag) (C : Addr) : Bool := match K.lookup C with
  | some ⟨.type T, _, .cls cd, sl⟩ => (match cd.mro, sl.toList with
    | .ref C' :: bm, [_, _, _, _, some (.builtin n), _] => decide (T = "type") && (decide (C' = C) && (decide (n = "ValueError.__new__") && (!cd.hasDel && (cd.hasDict && PySem.HandSPX.refsVE bm))))
    | _, _ => false)
  | _ => false
theorem oexB_ok {K : PySem.W.Frag} {C : Addr} (h : oexB K C = true) : ∃ nm q N bs bm sn sub ab col dd k0 k1 k2 k3 k5, K.lookup C = some (excClassObj nm q C N bs bm true sn sub ab col dd k0 k1 k2 k3 k5 "ValueError.__new__") ∧ PySem.HandSPX.refsVE bm = true := by
  unfold oexB at h
  split at h
  · rename_i T dd cd sl ho
    split at h
    · rename_i C' bm k0 k1 k2 k3 n k5 hm hs
      simp only [Bool.and_eq_true, decide_eq_true_eq, Bool.not_eq_true'] at h
      obtain ⟨rfl, rfl, rfl, hdel, hdct, hr⟩ := h
      obtain ⟨nm, bs, mro, ns, qn, hd, sn, sub, ab, col, del⟩ := cd
      dsimp only at hm hdel hdct
      subst hm hdel hdct
      have hsl : sl = #[k0, k1, k2, k3, some (.builtin "ValueError.__new__"), k5] := by
        obtain ⟨l⟩ := sl
        simp only at hs
        rw [hs]
      subst hsl
      exact ⟨nm, qn, ns, bs, bm, sn, sub, ab, col, dd, k0, k1, k2, k3, k5, ho, hr⟩
    · cases h
  · cases h
def oxB (K : PySem.W.Frag) (C : Addr) : Bool := oexB K C && (He.eqO (PySem.W.findIn K (.ref C) "__setattr__") (some (some (.builtin "object.__setattr__"))) && (decide (PySem.W.subIn K (.ref C) (.type "BaseException") = some true) && (decide (PySem.W.typeIn K (.ref C) = some (.type "type")) && PySem.W.keepIn K (.ref C))))
theorem oxB_ok {K : PySem.W.Frag} {C : Addr} (h : oxB K C = true) : OexC K C := by
  obtain ⟨h1, h⟩ := He.ba h
  obtain ⟨h2, h⟩ := He.ba h
  obtain ⟨h3, h⟩ := He.ba h
  obtain ⟨h4, h5⟩ := He.ba h
  exact ⟨oexB_ok h1, He.eqO_ok h2, of_decide_eq_true h3, of_decide_eq_true h4, h5⟩
/-- what the code object and the cell of its __init__ tell -/
def cdB (P : Program) (K : PySem.W.Frag) (C : Addr) (f : Addr) (qual : Str) : Bool := match K.lookup f with
  | some ⟨_, _, .func fd, _⟩ => (match fd.defaults, fd.code, fd.closure with
    | .none, .ref c, [(_, cc)] => PySem.W.codeIn K (.ref c) qual && ((match K.lookup cc with
        | some ⟨_, _, .cell (some (.ref D)), _⟩ => decide (D = C)
        | _ => false) && (match K.lookup c with
        | some ⟨_, _, .fields vs, _⟩ => (match vs[2]? with
          | some (Value.str file _) => (P.main.file : Str) == file
          | _ => false)
        | _ => false))
    | _, _, _ => false)
  | _ => false
/-- an own error's class x with an __init__ of its own, that says super().__init__(..) -/
def exiB (P : Program) (K : PySem.W.Frag) (x : Str) : Bool := oxB K (cA K x) && (cdB P K (cA K x) (iA K x) (x ++ ".__init__") && ((PySem.W.clsIn K (cA K x)).isSome && (decide (PySem.W.mroIn K (cA K x) (.ref (cA K x)) = some true) &&
  (He.eqO (PySem.W.ks_superIn K (cA K x) (cA K x) "__init__") (some (some (.builtin "ValueError.__init__"))) && (decide (PySem.W.subIn K (.ref (cA K x)) (.type "ValueError") = some true) && (He.eqO (PySem.W.nsIn K cStatics "thirdparty.any") (some none) &&
  (He.eqO (PySem.W.findIn K (.ref (cA K x)) "__init__") (some (some (.ref (iA K x)))) && decide (PySem.W.typeIn K (.ref (iA K x)) = some (.type "function")))))))))
abbrev FnC : Type := Option (Str × Str × Arguments × FuncBody × Scope × Addr × List Str × Addr)
def fnC (K : PySem.W.Frag) (x : Str) : FnC := match K.lookup (iA K x) with
  | some ⟨_, _, .func fd, _⟩ => some (fd.name, fd.qualname, fd.params, fd.body, fd.scope, fd.globals, fd.closure.map (·.1), fd.builtins)
  | _ => none
def valC (x : Str) (st : Stmt) : FnC := some ("__init__", x ++ ".__init__", defArgs st, .stmts (defBody st), defScope st, mainGlobals, ["__class__"], builtinsNs)
theorem exiB_ok {P : Program} {K : PySem.W.Frag} {x : Str} {st : Stmt} (e : fnC K x = valC x st) (h : exiB P K x = true) (ht : (P.main.scope.names.lookup ("super" : Str)).isSome = false) :
    ∃ cc cda fd, ExI P K (cA K x) (iA K x) cc cda "__init__" (x ++ ".__init__") (defArgs st) (defBody st) (defScope st) fd ∧ fd.defaults = .none ∧ PySem.W.findIn K (.ref (cA K x)) "__init__" = some (some (.ref (iA K x))) ∧ PySem.W.typeIn K (.ref (iA K x)) = some (.type "function") := by
  obtain ⟨h1, h⟩ := He.ba h
  obtain ⟨h2, h⟩ := He.ba h
  obtain ⟨h3, h⟩ := He.ba h
  obtain ⟨h4, h⟩ := He.ba h
  obtain ⟨h5, h⟩ := He.ba h
  obtain ⟨h6, h⟩ := He.ba h
  obtain ⟨h7, h⟩ := He.ba h
  obtain ⟨h8, h9⟩ := He.ba h
  unfold cdB at h2
  unfold fnC at e
  split at h2
  · rename_i oc od fd osl lk
    rw [lk] at e
    split at h2
    · rename_i cda nm cc hd hc hcl
      obtain ⟨g1, h2⟩ := He.ba h2
      obtain ⟨g2, g3⟩ := He.ba h2
      split at g2
      · rename_i cl cld D csl lcell
        have eD := of_decide_eq_true g2
        subst eD
        split at g3
        · rename_i ccl cdd vs ccs lcode
          split at g3
          · rename_i file tf hvs
            obtain ⟨n1, n2, n3, n4, n5, n6, n7, n8, n9, n10, n11, n12, n13, n14, n15⟩ := fd
            have e2 : (some (n1, n2, n3, n4, n5, n6, n7.map (·.1), n15) : FnC) = valC x st := e
            unfold valC at e2
            simp only [Option.some.injEq, Prod.mk.injEq] at e2
            dsimp only at hd hc hcl
            subst hd hc hcl
            obtain ⟨q1, q2, q3, q4, q5, q6, q7, q8⟩ := e2
            have q7 : ([nm] : List Str) = [("__class__" : Str)] := q7
            have q7 : nm = "__class__" := (List.cons.inj q7).1
            subst q1 q2 q3 q4 q5 q6 q7 q8
            exact ⟨cc, cda, _, ⟨⟨oc, od, osl, lk⟩, ⟨_, _, _, _, _, _, rfl⟩, g1, ⟨ccl, cdd, vs, ccs, file, tf, lcode, hvs, g3⟩, ⟨cl, cld, csl, lcell⟩, Option.isSome_iff_exists.mp h3, of_decide_eq_true h4, He.eqO_ok h5, of_decide_eq_true h6, He.eqO_ok h7, ht, oxB_ok h1⟩, rfl, He.eqO_ok h8, of_decide_eq_true h9⟩
          · cases g3
        · cases g3
      · cases g2
    · cases h2
  · cases h2
/-! ### the hook -/
def asY (g : Addr → Option Obj) (n : Nat) : List Addr := He.asD g n ++ [cStatics]
def kY (g : Addr → Option Obj) (n : Nat) : PySem.W.Frag := He.frT g (asY g n)
/-- what is told of K and the heap: facts, defs, the Bool ex, the errors' inits, the tables of tf: empty, not in K -/
structure SaysY (fa : List He.Fa) (fn : List He.DefD) (tf : List He.Defn) (ex : PySem.W.Frag → Bool) (es : List (Str × Stmt)) (h : Heap) (K : PySem.W.Frag) : Prop where
  d : He.SaysD fa fn K
  more : ex K = true
  ini : ∀ e ∈ es, fnC K e.1 = valC e.1 e.2
  hd : ∀ p ∈ tf, PySem.W.codeHdIn K (He.cT K p).1 (He.cT K p).2 = true
  out : ∀ p ∈ tf, K.lookup (He.cT K p).2 = none
  empty : ∀ p ∈ tf, h.get? (He.cT K p).2 = some { cls := .none, data := .fields #[] }
abbrev AlY : Type := He.AlD × Bool × List FnC
def obsY (n : Nat) (fa : List He.Fa) (fn : List He.DefD) (tf : List He.Defn) (ex : PySem.W.Frag → Bool) (es : List (Str × Stmt)) (g : Addr → Option Obj) : AlY := (He.obsD fa fn (kY g n), ex (kY g n) && He.tabsB g tf (kY g n), es.map fun e => fnC (kY g n) e.1)
def valY (fn : List He.DefD) (es : List (Str × Stmt)) : AlY := (He.valD fn, true, es.map fun e => valC e.1 e.2)
theorem kY_in {n : Nat} {h : Heap} : (kY h.get? n).In h := He.frT_in
theorem saysY_of {n : Nat} {fa : List He.Fa} {fn : List He.DefD} {tf : List He.Defn} {ex : PySem.W.Frag → Bool} {es : List (Str × Stmt)} {h : Heap} (e : obsY n fa fn tf ex es h.get? = valY fn es) : SaysY fa fn tf ex es h (kY h.get? n) := by
  have e1 : He.obsD fa fn (kY h.get? n) = He.valD fn := congrArg (fun z : AlY => z.1) e
  have e2 : (ex (kY h.get? n) && He.tabsB h.get? tf (kY h.get? n)) = true := congrArg (fun z : AlY => z.2.1) e
  have e3 : (es.map fun e => fnC (kY h.get? n) e.1) = es.map fun e => valC e.1 e.2 := congrArg (fun z : AlY => z.2.2) e
  obtain ⟨h1, h2⟩ := He.ba e2
  have at_ : ∀ p ∈ tf, PySem.W.codeHdIn (kY h.get? n) (He.cT (kY h.get? n) p).1 (He.cT (kY h.get? n) p).2 = true ∧ ∃ o, h.get? (He.cT (kY h.get? n) p).2 = some o ∧ He.emptyTab o = true := fun p hp => by
    obtain ⟨h3, h4⟩ := He.ba (List.all_eq_true.mp h2 p hp)
    refine ⟨h3, ?_⟩
    cases q : h.get? (He.cT (kY h.get? n) p).2 with
    | none => rw [q] at h4; cases h4
    | some o => rw [q] at h4; exact ⟨o, rfl, h4⟩
  refine ⟨e1, h1, fun x hx => ?_, fun p hp => (at_ p hp).1, fun p hp => ?_, fun p hp => ?_⟩
  · obtain ⟨i, hi, rfl⟩ := List.mem_iff_getElem.mp hx
    have z : (es.map fun e => fnC (kY h.get? n) e.1)[i]? = (es.map fun e => valC e.1 e.2)[i]? := by rw [e3]
    rw [List.getElem?_map, List.getElem?_map, List.getElem?_eq_getElem hi] at z
    exact Option.some.inj z
  · obtain ⟨_, o, q, z⟩ := at_ p hp
    exact He.frT_none q z
  · obtain ⟨_, o, q, z⟩ := at_ p hp
    rw [q, He.emptyTab_eq z]
def hookY (n : Nat) (fa : List He.Fa) (fn : List He.DefD) (tf : List He.Defn) (ex : PySem.W.Frag → Bool) (es : List (Str × Stmt)) : PySem.W.Hook where
  α := AlY
  obs := fun s => obsY n fa fn tf ex es s.heap.get?
  val := fun _ => valY fn es
  says := fun _ h => ∃ K : PySem.W.Frag, K.In h ∧ SaysY fa fn tf ex es h K
  of := fun _ _ e => ⟨_, kY_in, saysY_of e⟩
  keeps := fun _ _ _ ⟨K, hK, c⟩ k => ⟨K, PySem.W.Frag.In.keeps hK k, ⟨c.d, c.more, c.ini, c.hd, c.out, fun p hp => k _ _ (c.empty p hp)⟩⟩
theorem obsY_eq {n : Nat} {fa : List He.Fa} {fn : List He.DefD} {tf : List He.Defn} {ex : PySem.W.Frag → Bool} {es : List (Str × Stmt)} {g : Addr → Option Obj} {s : Shared} (h : ∀ a, g a = s.heap.get? a) : obsY n fa fn tf ex es g = (hookY n fa fn tf ex es).obs s := by
  have e : g = s.heap.get? := funext h
  rw [e] <;> rfl
/-- the fields of an error's class that no attribute of the class hides -/
def nfB (K : PySem.W.Frag) (x : Str) (fs : List Str) : Bool := fs.all fun f => He.eqO (PySem.W.findIn K (.ref (cA K x)) f) (some none)
theorem nfB_ok {K : PySem.W.Frag} {x f : Str} {fs : List Str} (h : nfB K x fs = true) (hf : f ∈ fs) : PySem.W.findIn K (.ref (cA K x)) f = some none := He.eqO_ok (List.all_eq_true.mp h f hf)
/-- whether an error of the class x is one of these -/
def anyB (K : PySem.W.Frag) (x : Str) (xs : List Str) (b : Bool) : Bool := decide (PySem.W.exmAny K (.ref (cA K x)) (xs.map fun y => .ref (cA K y)) = some b)
theorem anyB_ok {K : PySem.W.Frag} {x : Str} {xs : List Str} {b : Bool} (h : anyB K x xs b = true) : PySem.W.exmAny K (.ref (cA K x)) (xs.map fun y => .ref (cA K y)) = some b := of_decide_eq_true h
/-- a def that takes one value, its words as a datum of the head -/
abbrev dOf (x : Str) (st : Stmt) : He.DefD := ⟨(x, none), x, x, defArgs st, defBody st, defScope st, [], []⟩
end Z

/-! o[i] op= e; a list taken apart -/
namespace Z
open PySem L2
@[irreducible] def zGt (X : Cx) : V → V → Hp → VK → Prop := fun o i H Q => ∀ ps s σ ov iv, Inv X ps σ H s → RelV o ov → RelV i iv → wpAny (model X.prog X.w) X.A (getItem ov iv) (EP X ps σ Q) X.xe s
section
variable {X : Cx} {P : Program} {w : World} {K : PySem.W.Frag} {mg : Str → Option Value} {base : Heap} {N : List Str} {sc : Scope} {k : Nat}
variable {σ : St} {H : Hp} {nx bk ct : St → Hp → Prop} {rt : VK} {Q : VK}
theorem zGt_ok : PGet X (zGt X) := fun ps s σ H o i ov iv Q I ro ri h => by unfold zGt at h; exact h ps s σ ov iv I ro ri
theorem zGt_of {t : V → V → Hp → VK → Prop} (p : PGet X t) {o i : V} (h : t o i H Q) : zGt X o i H Q := by unfold zGt; exact fun ps s σ ov iv I ro ri => p ps s σ H o i ov iv Q I ro ri h
theorem s_augX {o i e : Expr} {op : Operator} {tpos pos : Pos} (h : zE X o σ H fun x H1 => zE X i σ H1 fun y H2 => zGt X x y H2 fun v H3 => zE X e σ H3 fun u H4 => zO X (inplaceOp op) v u H4 fun z H5 => zSet X x y z H5 fun H6 => nx σ H6)
    (ha : ∀ ov iv new, augStore i ov iv new = (do holding [new, ov, iv] (setItem ov iv new); release [new, ov, iv] []; pure .next) := by intros; rfl) : zS X (.AugAssign (.Subscript o i tpos) op e pos) nx rt bk ct σ H := zS_of (ps_augS (zE_ok o) (zE_ok i) zGt_ok (zE_ok e) zPIp zSet_ok ha) h
theorem g_unl {es : List Expr} {kk : Nat} {pos : Pos} {a : Addr} {vs : List V} {QG : St → Hp → Prop} (C : Ctx X P w K mg base N sc k) (ha : SqL X.K H a vs) (h : zGs X es vs σ H QG)
    (hn : (assignEach es X.env).length = vs.length := by rfl) (hst : (assignEach es X.env).findIdx? (·.1) = none := by rfl) : zG X (.Tuple es kk pos) (.ref a) σ H QG := zG_of (pg_unl C.calm (zGs_ok es) rfl hst) ⟨a, vs, rfl, ha, hn.symm, h⟩
theorem gt_l {l : Addr} {xs : List V} {v : V} {i : Int} (hl : SqL X.K H l xs) (h0 : 0 ≤ i) (hv : xs[i.toNat]? = some v) (h : Q v H) : zGt X (.ref l) (.int i) H Q := by
  unfold zGt
  intro ps s σ ov iv I ro ri
  cases ro
  obtain ⟨t, rfl⟩ := ri
  obtain ⟨its, r, pl, hz⟩ := I.list hl
  obtain ⟨w', ew, rw'⟩ := r.get hv
  have hn := line63
  have h1 : i.toNat < xs.length := (List.getElem?_eq_some_iff.mp hv).1
  have hl2 := r.length
  exact wpAny_getItem_list pl.isList h0 (by omega) (by simpa using ew) ⟨v, H, I, rw', h⟩
end
end Z

/-! a lambda as a value: its function object is known from now on -/
namespace Z
open PySem L2
/-- the words of a lambda's function: the cells it captured, its code object, where its defaults lie -/
structure LF where
  qual : Str
  params : Arguments
  body : Expr
  scope : Scope
  cl : List (Str × Addr)
  c : Addr
  dv : Option Addr
def dvV : Option Addr → Value
  | none => .none
  | some a => .ref a
abbrev LF.fd (F : LF) (pm ctv : Value) : FuncData :=
  { name := "<lambda>", qualname := F.qual, params := F.params, body := .expr F.body, scope := F.scope, globals := mainGlobals, closure := F.cl, defaults := dvV F.dv, kwdefaults := .none, doc := .none, pyModule := pm, annotations := none, code := .ref F.c, closureTuple := ctv, builtins := builtinsNs }
def LamO (f : Addr) (F : LF) : HO := .ext fun h => ∃ pm ctv : Value, h.get? f = some ({ cls := .type "function", data := .func (F.fd pm ctv) } : Obj)
theorem lamO_ne {f : Addr} {F : LF} (ps : Array Value) : LamO f F ≠ .tbl ps := fun z => by
  unfold LamO at z
  cases z
theorem lamO_ok {h : Heap} {f : Addr} {F : LF} {pm ctv : Value} (e : h.get? f = some ({ cls := .type "function", data := .func (F.fd pm ctv) } : Obj)) {Pg : Program} {w : World} {H : Hp} : ObjOk Pg w H h f (LamO f F) :=
  ⟨⟨pm, ctv, e⟩, ⟨_, e⟩, fun h1 h2 ⟨pm, ctv, z⟩ st => ⟨pm, ctv, st _ z⟩⟩
theorem lamO_at {P : Program} {w : World} {H : Hp} {h : Heap} {f : Addr} {F : LF} (hok : HOk P w H h) (e : H f = some (LamO f F)) : ∃ pm ctv : Value, h.get? f = some ({ cls := .type "function", data := .func (F.fd pm ctv) } : Obj) := by
  obtain ⟨z, _, _⟩ := hok f _ e
  exact z
section
variable {M : Model} {A : Around} {E : Value → Shared → Prop} {s : Shared} {name qual : Str} {params : Arguments} {body : Expr} {scope : Scope} {env : Env} {c P : Addr} {ps : Array Value} {pos : Pos} {ln : Nat} {mg : Str → Option Value} {clos : List (Str × Addr)} {Q : Value → Shared → Prop} {dv : Value}
/-- the function object made: its code object is new .. -/
theorem tail_new (hcl : closureFor scope env = pure clos) (hge : env.globals = mainGlobals) (hg : s.heap.Ns mainGlobals mg) (hcode : env.code = .ref c) (C : PySem.W.CodeHd s.heap c P) (hP : s.heap.get? P = some (PySem.W.tabObj ps)) (ht : TriplesOk ps.toList) (hnf : codeAmong pos ps.toList = none) (hgP : mainGlobals ≠ P) (hb : s.heap.BuiltinsAt mg P)
    (h : ∀ c' ctv h' tk, Heap.ExtBut P s.heap h' → s.heap.objs.size ≤ c' → c' < h'.objs.size → h'.CodeRec (.ref c') qual → h'.get? P = some (PySem.W.tabObj (ps ++ #[rawInt pos.line, rawInt pos.col, .ref c'])) →
      Q (.ref h'.objs.size) { s with heap := h'.push { cls := .type "function", data := .func { name := name, qualname := qual, params := params, body := .expr body, scope := scope, globals := mainGlobals, closure := clos, defaults := dv, kwdefaults := .none, doc := .none, pyModule := (mg "__name__").getD .none, annotations := none, code := .ref c', closureTuple := ctv, builtins := builtinsNs } }, toks := tk }) :
    wpAny M A (makeTail name qual params (.expr body) scope env dv .none none pos ln) Q E s := by
  obtain ⟨bm, ob, b1, b2, _, b4, b5, b6, b7, b8⟩ := hb
  unfold makeTail
  rw [hcl, hge]
  refine wpAny_bind (wpAny_pure ?_)
  cases clos with
  | nil =>
    simp only [List.isEmpty_nil, if_true]
    refine wpAny_bind (wpAny_pure ?_)
    refine wpAny_bind (wpAny_functionCodeX hcode (C.code hP ht) (C.tab hP) hnf fun c' h' tk hx h1 h2 _ h3 h4 _ => ?_)
    have hg' := hg.extBut hx hgP
    refine wpAny_bind (wpAny_builtinsFor hg' b1 b2 (hx _ _ b4 b5) b6 b7 b8 ?_)
    refine wpAny_bind (wpAny_nsGet hg' ?_)
    exact wpAny_bind (wpAny_pure (wpAny_newObj_type (h c' .none h' tk hx h1 h2 h3 h4.2) (by size_fits)))
  | cons q r =>
    simp only [List.isEmpty_cons, Bool.false_eq_true, if_false]
    refine wpAny_bind (wpAny_newTextTuple ?_)
    refine wpAny_bind (wpAny_functionCodeX hcode ((C.keeps fun b o e => Heap.get?_push_of_some _ e).code (Heap.get?_push_of_some _ hP) ht) ((C.keeps fun b o e => Heap.get?_push_of_some _ e).tab (Heap.get?_push_of_some _ hP)) hnf fun c' h' tk hx h1 h2 _ h3 h4 _ => ?_)
    have hg' := (hg.push _).extBut hx hgP
    have hx' : Heap.ExtBut P s.heap h' := fun b o hb' e => hx b o hb' (Heap.get?_push_of_some _ e)
    have h1' : s.heap.objs.size ≤ c' := Nat.le_trans (by rw [Heap.size_push]; omega) h1
    refine wpAny_bind (wpAny_builtinsFor hg' b1 b2 (hx' _ _ b4 b5) b6 b7 b8 ?_)
    refine wpAny_bind (wpAny_nsGet hg' ?_)
    exact wpAny_bind (wpAny_pure (wpAny_newObj_type (h c' _ h' tk hx' h1' h2 h3 h4.2) (by size_fits)))
/-- .. or found in the table -/
theorem tail_hit {cv : Value} (hcl : closureFor scope env = pure clos) (hge : env.globals = mainGlobals) (hg : s.heap.Ns mainGlobals mg) (hcode : env.code = .ref c) (C : PySem.W.CodeHd s.heap c P) (hP : s.heap.get? P = some (PySem.W.tabObj ps)) (ht : TriplesOk ps.toList) (hf : codeAmong pos ps.toList = some cv) (hb : s.heap.BuiltinsAt mg P)
    (h : ∀ (ctv : Value) (h' : Heap) (tk : Tok), (∀ b o, s.heap.get? b = some o → h'.get? b = some o) → s.heap.objs.size ≤ h'.objs.size →
      Q (.ref h'.objs.size) { s with heap := h'.push { cls := .type "function", data := .func { name := name, qualname := qual, params := params, body := .expr body, scope := scope, globals := mainGlobals, closure := clos, defaults := dv, kwdefaults := .none, doc := .none, pyModule := (mg "__name__").getD .none, annotations := none, code := cv, closureTuple := ctv, builtins := builtinsNs } }, toks := tk }) :
    wpAny M A (makeTail name qual params (.expr body) scope env dv .none none pos ln) Q E s := by
  obtain ⟨bm, ob, b1, b2, _, b4, b5, b6, b7, b8⟩ := hb
  unfold makeTail
  rw [hcl, hge]
  refine wpAny_bind (wpAny_pure ?_)
  cases clos with
  | nil =>
    simp only [List.isEmpty_nil, if_true]
    refine wpAny_bind (wpAny_pure ?_)
    refine wpAny_bind (wpAny_functionCode_hit hcode (C.code hP ht) hf ?_)
    refine wpAny_bind (wpAny_builtinsFor hg b1 b2 b5 b6 b7 b8 ?_)
    refine wpAny_bind (wpAny_nsGet hg ?_)
    exact wpAny_bind (wpAny_pure (wpAny_newObj_type (h .none s.heap s.toks (fun _ _ e => e) (Nat.le_refl _)) (by size_fits)))
  | cons q r =>
    simp only [List.isEmpty_cons, Bool.false_eq_true, if_false]
    refine wpAny_bind (wpAny_newTextTuple ?_)
    refine wpAny_bind (wpAny_functionCode_hit hcode ((C.keeps fun b o e => Heap.get?_push_of_some _ e).code (Heap.get?_push_of_some _ hP) ht) hf ?_)
    refine wpAny_bind (wpAny_builtinsFor (hg.push _) b1 b2 (Heap.get?_push_of_some _ b5) b6 b7 b8 ?_)
    refine wpAny_bind (wpAny_nsGet (hg.push _) ?_)
    have hsz : ∀ oT : Obj, s.heap.objs.size ≤ (s.heap.push oT).objs.size := fun oT => by rw [Heap.size_push]; omega
    exact wpAny_bind (wpAny_pure (wpAny_newObj_type (h _ _ s.toks (fun b o e => Heap.get?_push_of_some _ e) (hsz _)) (by size_fits)))
end
section
variable {X : Cx} {pins : List (Addr × Obj)} {σ : St} {H : Hp} {s : Shared} {c P : Addr} {params : Arguments} {body : Expr} {scope : Scope} {pos : Pos} {ln : Nat} {E : Value → Shared → Prop} {Q : Value → Shared → Prop} {qn : Str} {dv : Option Addr}
theorem tabS_ext {H H' : Hp} {T : Addr} {q : Str} (t : LamX.TabS H T q) (e : ∀ b o, H b = some o → H' b = some o) : LamX.TabS H' T q := t.ext e
/-- the lambda's function object is made and known -/
theorem lam_inv (I : Inv X pins σ H s) (TB : LamX.TabB X.base X.mg c P) (hcode : X.env.code = .ref c) (hT : LamX.TabS H P qn) (hfree : ∀ y ∈ scope.names, y.2 = .free → ∃ c, X.env.cells.lookup y.1 = some c)
    (h : ∀ (f c' : Addr) (H1 : Hp) (s' : Shared), Inv X pins σ H1 s' → LamX.ExtN H H1 → (∀ b, H1 b = none → H b = none) → LamX.TabS H1 P qn → H f = none → H1 f = some (LamO f ⟨qn, params, body, scope, cloFrom X.env.cells scope.names [], c', dv⟩) → H1 c' = some (LamX.CodeO c' qn) → Q (.ref f) s') :
    wpAny (model X.prog X.w) X.A (makeTail "<lambda>" qn params (.expr body) scope X.env (dvV dv) .none none pos ln) Q E s := by
  obtain ⟨ps, hP, ht, ha⟩ := hT
  have bP : s.heap.BuiltinsAt X.mg P := TB.bm.keeps I.bk
  have hP' : s.heap.get? P = some { cls := .none, data := .fields ps } := I.hok P _ hP
  have kn : ∀ (H1 : Hp) (s1 : Shared) (F : LF) (pm ctv : Value) (tk : Nat), Inv X pins σ H1 s1 → Inv X pins σ (upd H1 s1.heap.objs.size (LamO s1.heap.objs.size F)) { s1 with heap := s1.heap.push { cls := .type "function", data := .func (F.fd pm ctv) }, toks := tk } := fun H1 s1 F pm ctv tk I1 =>
    I1.laid (fun b u e => Heap.get?_push_of_some _ e) (Nat.le_refl _) (lamO_ok (Heap.get?_push_size _ rfl))
  cases hc : codeAmong pos ps.toList with
  | none =>
    refine tail_new (mg := X.mg) (c := c) (P := P) (ps := ps) (closure_ok hfree) I.ok.glob (I.mod.glob.keeps I.bk) hcode (TB.code.keeps I.bk) hP' ht hc TB.gP bP fun c' ctv h' tk hx h1 h2 h3 htb => ?_
    obtain ⟨c2, oc, vs, t, e2, hoc, hd, hv⟩ := h3
    cases e2
    have nC : H c' = none := I.hok.fresh h1
    have I1 := LamX.inv_table (t' := tk) (more := #[rawInt pos.line, rawInt pos.col, .ref c']) (h' := h') (q := qn) I hP (fun b o hb e => hx b o hb e) htb h1 ⟨oc, vs, t, hoc, hd, hv⟩
    obtain ⟨H2, hH2⟩ : ∃ H2, upd (upd H P (.tbl (ps ++ #[rawInt pos.line, rawInt pos.col, .ref c']))) c' (LamX.CodeO c' qn) = H2 := ⟨_, rfl⟩
    have hE : LamX.ExtN H H2 := fun b o e n => by
      rw [← hH2, upd_ne (ne_of_none e nC), upd_ne (fun z => n ps (Option.some.inj (e.symm.trans (by rw [z]; exact hP))))]
      exact e
    have hN : ∀ b, H2 b = none → H b = none := fun b e => by
      rw [← hH2] at e
      unfold upd at e
      split at e
      · cases e
      · split at e
        · cases e
        · exact e
    have hc2 : H2 c' = some (LamX.CodeO c' qn) := by rw [← hH2]; exact upd_same
    rw [hH2] at I1
    have eL : (ps ++ #[rawInt pos.line, rawInt pos.col, .ref c']).toList = ps.toList ++ [rawInt pos.line, rawInt pos.col, .ref c'] := by simp
    have T2 : LamX.TabS H2 P qn := by
      refine ⟨_, by rw [← hH2, upd_ne (ne_of_none hP nC), upd_same], by rw [eL]; exact PySem.TriplesOk_snoc _ _ _ _ ht, fun p' cv hcv => ?_⟩
      rw [eL] at hcv
      rcases LamX.among_app _ ht hcv with z | z
      · obtain ⟨c0, q1, q2⟩ := ha p' cv z
        exact ⟨c0, q1, hE _ _ q2 LamX.codeO_ne⟩
      · exact ⟨c', z, hc2⟩
    have I2 := kn H2 { s with heap := h', toks := tk } ⟨qn, params, body, scope, cloFrom X.env.cells scope.names [], c', dv⟩ ((X.mg "__name__").getD .none) ctv tk I1
    have nF : H2 h'.objs.size = none := I1.hok.fresh (Nat.le_refl _)
    have up : ∀ b o, H2 b = some o → upd H2 h'.objs.size (LamO h'.objs.size ⟨qn, params, body, scope, cloFrom X.env.cells scope.names [], c', dv⟩) b = some o := fun b o e => (upd_ne (ne_of_none e nF)).trans e
    exact h h'.objs.size c' _ _ I2 (fun b o e n => up b o (hE b o e n)) (fun b e => hN b (by
      unfold upd at e
      split at e
      · cases e
      · exact e)) (tabS_ext T2 up) (hN _ nF) upd_same (up _ _ hc2)
  | some cv =>
    obtain ⟨c', e, hco⟩ := ha pos cv hc
    subst e
    refine tail_hit (mg := X.mg) (c := c) (P := P) (ps := ps) (closure_ok hfree) I.ok.glob (I.mod.glob.keeps I.bk) hcode (TB.code.keeps I.bk) hP' ht hc bP fun ctv h' tk hx hsz => ?_
    have I1 : Inv X pins σ H { s with heap := h', toks := tk } := I.kept hx
    have nF : H h'.objs.size = none := I1.hok.fresh (Nat.le_refl _)
    have I2 := kn H { s with heap := h', toks := tk } ⟨qn, params, body, scope, cloFrom X.env.cells scope.names [], c', dv⟩ ((X.mg "__name__").getD .none) ctv tk I1
    have up : ∀ b o, H b = some o → upd H h'.objs.size (LamO h'.objs.size ⟨qn, params, body, scope, cloFrom X.env.cells scope.names [], c', dv⟩) b = some o := fun b o e => (upd_ne (ne_of_none e nF)).trans e
    exact h h'.objs.size c' _ _ I2 (fun b o e n => up b o e) (fun b e => by
      unfold upd at e
      split at e
      · cases e
      · exact e) (tabS_ext ⟨ps, hP, ht, ha⟩ up) nF upd_same (up _ _ hco)
end
section
variable {X : Cx} {P : Program} {w : World} {K : PySem.W.Frag} {mg : Str → Option Value} {base : Heap} {N : List Str} {sc : Scope} {k : Nat} {σ : St} {H : Hp} {Q : VK} {c T : Addr} {params : Arguments} {body : Expr} {scope : Scope} {pos : Pos}
/-- lambda: body, as a value -/
theorem e_lamV (L : LamT X c T) (hT : LamX.TabS H T (X.env.qual ++ "<lambda>")) (hl : LamX.lamSB sc scope = true) (C : Ctx X P w K mg base N sc k)
    (h : ∀ (f c' : Addr) (H1 : Hp), LamX.ExtN H H1 → (∀ b, H1 b = none → H b = none) → LamX.TabS H1 T (X.env.qual ++ "<lambda>") → H f = none → H1 f = some (LamO f ⟨X.env.qual ++ "<lambda>", params, body, scope, cloFrom X.env.cells scope.names [], c', none⟩) → H1 c' = some (LamX.CodeO c' (X.env.qual ++ "<lambda>")) → Q (.ref f) H1)
    (hdef : defaultsOf params X.env = ([], []) := by rfl) : zE X (.Lambda params body scope pos) σ H Q := by
  unfold zE
  intro ps s I
  have LS : LamX.LamS X.env.scope scope := by rw [C.scp]; exact LamX.lamS_by hl
  refine PySem.W.kla_eval hdef ?_
  rw [makeFunction_eq]
  simp only [List.zip_nil_right, List.filterMap_nil, List.isEmpty_nil, if_true, pure_bind]
  exact lam_inv (dv := none) I L.tb L.code hT (LS.has I.ok) fun f c' H1 s' J e1 n1 t1 nf hf hc => ⟨.ref f, H1, J, rfl, h f c' H1 e1 n1 t1 nf hf hc⟩
/-- lambda x=i: body, as a value -/
theorem e_lamD {i : Int} {jj : Nat} {pd : Pos} (L : LamT X c T) (hT : LamX.TabS H T (X.env.qual ++ "<lambda>")) (hl : ∀ y ∈ scope.names, y.2 = .free → sc.names.lookup y.1 = some .cell ∨ sc.names.lookup y.1 = some .free) (C : Ctx X P w K mg base N sc k)
    (h : ∀ (f c' tp : Addr) (H1 : Hp), LamX.ExtN H H1 → (∀ b, H1 b = none → H b = none) → LamX.TabS H1 T (X.env.qual ++ "<lambda>") → H f = none → H1 f = some (LamO f ⟨X.env.qual ++ "<lambda>", params, body, scope, cloFrom X.env.cells scope.names [], c', some tp⟩) → H1 c' = some (LamX.CodeO c' (X.env.qual ++ "<lambda>")) → H1 tp = some (.tup [.int i]) → Q (.ref f) H1)
    (hdef : defaultsOf params X.env = ([eval (.Constant (.int i) jj pd) X.env], []) := by rfl) : zE X (.Lambda params body scope pos) σ H Q := by
  unfold zE
  intro ps s I
  have hfree : ∀ y ∈ scope.names, y.2 = .free → ∃ c, X.env.cells.lookup y.1 = some c := fun y hy e => by
    refine I.ok.has y.1 ?_
    show X.env.scope.names.lookup y.1 = _ ∨ X.env.scope.names.lookup y.1 = _
    rw [C.scp]
    exact hl y hy e
  rw [arm_eval_Lambda, hdef]
  refine wpAny_bind (wpAny_bind (wpAny_Constant_int ?_))
  refine wpAny_bind (wpAny_holding (wpAny_pure (wpAny_pure ?_)))
  refine wpAny_bind (wpAny_holding (wpAny_pure ?_))
  rw [makeFunction_eq]
  simp only [List.zip_nil_right, List.filterMap_nil, List.isEmpty_nil, List.isEmpty_cons, Bool.false_eq_true, if_false, if_true, pure_bind]
  refine wpAny_bind (wpAny_newTextTuple ?_)
  obtain ⟨hh, g, d, t, os⟩ := s
  have I0 : Inv X ps σ H ⟨hh, g, d, t + 1, os⟩ := I.tok (t + 1)
  have hget : (hh.push { cls := .type "tuple", data := .seq ([Value.int i t] : List Value).toArray }).get? hh.objs.size = some { cls := .type "tuple", data := .seq ([Value.int i t] : List Value).toArray } := Heap.get?_push_size _ rfl
  have nT : H hh.objs.size = none := I.hok.fresh (Nat.le_refl _)
  have I1 : Inv X ps σ (upd H hh.objs.size (.tup [.int i])) ⟨hh.push { cls := .type "tuple", data := .seq ([Value.int i t] : List Value).toArray }, g, d, t + 1, os⟩ :=
    I0.laid (t' := t + 1) (a := hh.objs.size) (o := .tup [.int i]) (fun b u e => Heap.get?_push_of_some _ e) (Nat.le_refl _) ⟨by show 1 ≤ sizeLine; decide, [.int i t], .cons ⟨t, rfl⟩ .nil, ⟨_, hget, rfl, _, rfl⟩⟩
  have e0 : Ex H (upd H hh.objs.size (.tup [.int i])) := Evl.Ex.new nT
  exact lam_inv (dv := some hh.objs.size) I1 L.tb L.code (tabS_ext hT e0) hfree fun f c' H1 s' J e1 n1 t1 nf hf hc => ⟨.ref f, H1, J, rfl, h f c' _ H1 (fun b o e n => e1 b o (e0 b o e) n) (fun b e => by
    have := n1 b e
    unfold upd at this
    split at this
    · cases this
    · exact this) t1 (by
    have := nf
    unfold upd at this
    split at this
    · cases this
    · exact this) hf hc (e1 _ _ upd_same (fun _ z => by cases z))⟩
end
end Z

/-! a comprehension whose element may lean on the maker's state at the block's entry -/
namespace Z
open PySem L2 PyProof.Rows
theorem lc_own {X : Cx} {pins : List (Addr × Obj)} {s : Shared} {σ : L2.St} {H : Hp} {Q : VK} {elt tg iter : Expr} {scope : Scope} {own : List (Str × Nat)} {pos pos' : Pos} {wi : TI} {g : TG} {te : TE}
    (hc : X.calm = true) (hN : X.N.Nodup) (I : L2.Inv X pins σ H s) (hi : PI X tg iter wi) (ok : BlkOk X.N X.env.scope scope own)
    (hg : ∀ (s : Shared) (H : Hp) (a : Addr) (cl : List (Str × Addr)) (fp : List Addr), PG (X.blk s H scope (compEnvC scope cl a X.env) fp) tg g)
    (he : ∀ (s : Shared) (H : Hp) (a : Addr) (cl : List (Str × Addr)) (fp : List Addr), L2.Inv X pins σ H s → (∀ b ∈ fp, FpOk X pins H b) → PE (X.blk s H scope (compEnvC scope cl a X.env) fp) elt te) (hs : ∀ x, foldedSetIterable iter X.env x = pure x)
    (h : tLc wi g tYes te (own.map (·.2)) σ H Q) : wpAny (model X.prog X.w) X.A (comprehension (.ListComp elt [⟨tg, iter, [], 0⟩] scope pos) scope X.env pos' (newList []) false (eval iter X.env) none) (EP X pins σ Q) X.xe s := by
  have hfree : ∀ y ∈ scope.names, y.2 = .free → ∃ c, X.env.cells.lookup y.1 = some c := fun y hy e => (ok.free y hy e).elim (fun k => I.ok.has _ (.inl k)) fun k => I.ok.has _ (.inr k)
  have ends : ∀ (D a : Addr) (s' : Shared) (m : Str → Option Value) (H' : Hp), L2.Inv X pins σ H' s' → Q (.ref D) H' → s'.heap.Ns a m → FpOk X pins H' a → compPost (model X.prog X.w) X.A X.xe none (EP X pins σ Q) (.ref D) a (.ok .next) s' := fun D a s' m H' I' q hn f => ⟨m, hn, fun h2 sb => by
    obtain ⟨f0, f1, f2, f3, f4, f5⟩ := f
    exact ⟨.ref D, H', I'.turned (t' := s'.toks) (fun b o hb e => (sb.2 b hb).trans e) f0 f1 f3 f4 f5, rfl, q⟩⟩
  refine wpAny_comprehension_free (use := none) rfl hs (closure_ok hfree) ok.kind (fun y hy e => by rw [ok.uniq y hy, e]) (thn (hi.run pins s σ H _ I h) fun xv s1 hx => thn hx fun itv s2 h2 => ?_)
  obtain ⟨it, fp, tn, J, H2, rfl, I2, T, st2, f2, q⟩ := h2
  refine wpAny_newObj_type (newEnv_comp ?_) (by show 0 ≤ sizeLine; decide)
  obtain ⟨D, hD⟩ : ∃ D, s2.heap.objs.size = D := ⟨_, rfl⟩
  rw [hD]
  have hDn : H2 D = none := I2.hok.fresh (Nat.le_of_eq hD)
  obtain ⟨W, ⟨m0, w0⟩, turn⟩ := q D hDn
  obtain ⟨s3, hs3⟩ : ∃ s3 : Shared, ({ s2 with heap := s2.heap.push { cls := .type "list", data := .seq ([] : List Value).toArray } } : Shared) = s3 := ⟨_, rfl⟩
  rw [hs3]
  have h3 : s3.heap = s2.heap.push { cls := .type "list", data := .seq ([] : List Value).toArray } := by rw [← hs3]
  obtain ⟨H3, hH3⟩ : ∃ H3, L2.upd H2 D (.lst []) = H3 := ⟨_, rfl⟩
  rw [hH3] at w0
  have I3 : L2.Inv X pins σ H3 s3 := by
    rw [← hs3, ← hH3]
    refine I2.laid (t' := s2.toks) (fun b o e => Heap.get?_push_of_some _ e) (Nat.le_of_eq hD) ⟨Nat.zero_le _, [], 0, .nil, ?_⟩
    rw [← hD]
    exact Heap.get?_push_size _ rfl
  have f3 : ∀ b ∈ fp, FpOk X pins H3 b ∧ b < s3.heap.objs.size := fun b hb => by
    obtain ⟨o, e, _⟩ := T.obj _ _ st2 b hb
    have hlt := Heap.lt_size e
    refine ⟨⟨?_, (f2 b hb).2⟩, by rw [h3, Heap.size_push]; exact Nat.lt_succ_of_lt hlt⟩
    rw [← hH3, upd_ne (by rw [← hD]; exact Nat.ne_of_lt hlt)]
    exact (f2 b hb).1
  have st3 : tn 0 s3.heap := T.keep _ _ _ st2 fun b _ o e => by rw [h3]; exact Heap.get?_push_of_some _ e
  have I4 := block_start I3 ok hN f3
  have pg := hg s3 H3 s3.heap.objs.size (cellsFrom (s3.heap.objs.size + 1) scope.names (cloFrom X.env.cells scope.names [])) fp
  have pe := he s3 H3 s3.heap.objs.size (cellsFrom (s3.heap.objs.size + 1) scope.names (cloFrom X.env.cells scope.names [])) fp I3 fun b hb => (f3 b hb).1
  show codeAny _ _ (.compStart (.ListComp elt [⟨tg, iter, [], 0⟩] scope pos) 0 (.ref it) (.ref D) (compEnvC scope (cellsFrom (s3.heap.objs.size + 1) scope.names (cloFrom X.env.cells scope.names [])) s3.heap.objs.size X.env)) (compPost (model X.prog X.w) X.A X.xe none (EP X pins σ Q) (.ref D) s3.heap.objs.size) { s3 with heap := pushCells (s3.heap.push { cls := .type "dict", data := .dict #[] }) scope.names }
  obtain ⟨ce, hce⟩ : ∃ ce, compEnvC scope (cellsFrom (s3.heap.objs.size + 1) scope.names (cloFrom X.env.cells scope.names [])) s3.heap.objs.size X.env = ce := ⟨_, rfl⟩
  rw [hce] at I4 pg pe ⊢
  have cL : ce.locals = s3.heap.objs.size := by rw [← hce]; rfl
  obtain ⟨s4, hs4⟩ : ∃ s4 : Shared, ({ s3 with heap := pushCells (s3.heap.push { cls := .type "dict", data := .dict #[] }) scope.names } : Shared) = s4 := ⟨_, rfl⟩
  rw [hs4] at I4 ⊢
  have st4 : tn 0 s4.heap := T.keep _ _ _ st3 fun b _ o e => by rw [← hs4]; exact pushCells_keeps _ _ _ _ (Heap.get?_push_of_some _ e)
  have nfp : ∀ b ∈ fp, H3 b = none := fun b hb => (f3 b hb).1.1
  have stat : ∀ {σ' : L2.St} {H' : Hp} {s' : Shared}, L2.Inv (X.blk s3 H3 scope ce fp) [] σ' H' s' → (∀ b ∈ fp, H' b = none) → ∀ b ∈ fp, FpOk (X.blk s3 H3 scope ce fp) [] H' b := fun {σ' H' s'} I' hn b hb =>
    ⟨hn b hb, (I'.ok.exf b hb).1, I'.ok.exfs b hb, .inl hb, fun x c e => (I'.ok.exf b hb).2 x c e, fun p hp => absurd (show p ∈ ([] : List (Addr × Obj)) ++ [] from hp) (by simp)⟩
  have loop : codeAny (model X.prog X.w) X.A (.compLoop (.ListComp elt [⟨tg, iter, [], 0⟩] scope pos) 0 (.ref it) (.ref D) ce) (compPost (model X.prog X.w) X.A X.xe none (EP X pins σ Q) (.ref D) s3.heap.objs.size) s4 := by
    refine compLoop_any (fun n s' => ∃ i H', L2.Inv (X.blk s3 H3 scope ce fp) [] (wipe σ (own.map (·.2))) H' s' ∧ tn i s'.heap ∧ (∀ b ∈ fp, H' b = none) ∧ W i n H') ?_ m0 ⟨0, H3, I4, st4, nfp, w0⟩
    rintro n s5 ⟨i, H5, I5, st5, n5, w5⟩
    rcases turn i n H5 w5 with ⟨stop, qq⟩ | ⟨go, Nx, hNx, step⟩
    · have td := T.done (X.blk s3 H3 scope ce fp) rfl rfl rfl hc i [] s5 _ H5 (fun _ _ => False) I5 (stat I5 n5) st5 stop
      refine thnF td fun r s6 ⟨hr, I6⟩ => ?_
      subst hr
      have I7 : L2.Inv X pins σ H5 s6 := I3.call' (ch := fp) I6.os I6.base I6.hok I6.bare fun b hb => ⟨(f3 b hb).1.2.2.2.1, (f3 b hb).1.2.1, (f3 b hb).1.2.2.2.2.1, (f3 b hb).1.2.2.2.2.2⟩
      have nC : H5 s3.heap.objs.size = none := by
        have z : H5 ce.locals = none := I6.free
        rw [cL] at z
        exact z
      obtain ⟨m, hn, _⟩ := I6.loc
      have hn : s6.heap.Ns ce.locals m := hn
      rw [cL] at hn
      exact ends D s3.heap.objs.size s6 m H5 I7 qq hn (I3.fpOk (Nat.le_refl _) nC)
    · have ti := T.item (X.blk s3 H3 scope ce fp) rfl rfl rfl hc i [] s5 _ H5 (fun _ _ => False) I5 (stat I5 n5) st5 go
      refine thnF ti fun r s6 ⟨u, hr, h6⟩ => ?_
      subst hr
      refine thnF h6 fun _ s7 ⟨x, H7, I7, r7, y7, st7, n7⟩ => ?_
      have I7' := I7.pinned (stat I7 n7) (T.obj _ _ st7)
      refine thnF (pg.run _ s7 _ H7 x u _ I7' r7 (step x H7 y7)) fun _ s8 ⟨σ8, H8, I8, hw8, q8⟩ => ?_
      refine thnF ((pts_nil (X := X.blk s3 H3 scope ce fp)).run _ s8 σ8 H8 _ I8 q8) fun b s9 ⟨H9, I9, q9⟩ => ?_
      have fin : ∀ {s' : Shared} {H' : Hp}, L2.Inv (X.blk s3 H3 scope ce fp) ([] ++ pinsAt fp s7.heap) σ8 H' s' → Nx H' → ∃ m, m < n ∧ ∃ i H', L2.Inv (X.blk s3 H3 scope ce fp) [] (wipe σ (own.map (·.2))) H' s' ∧ tn i s'.heap ∧ (∀ b ∈ fp, H' b = none) ∧ W i m H' := fun {s' H'} I' nx => by
        obtain ⟨m', hm, w'⟩ := hNx H' nx
        have pin' : ∀ b ∈ fp, ∀ o, s7.heap.get? b = some o → s'.heap.get? b = some o ∧ H' b = none := fun b hb o e =>
          let z := I'.pin (b, o) (List.mem_append_right _ (List.mem_append_right _ (mem_pinsAt hb e)))
          ⟨z.1, z.2.1⟩
        have hl : (wipe σ (own.map (·.2))).length = σ8.length := by rw [← hw8, wipe_length]
        refine ⟨m', hm, i + 1, H', (I'.unpinned (pins := [])).weak hl (fun j v e => ?_), T.keep _ _ _ st7 fun b hb o e => (pin' b hb o e).1, fun b hb => ?_, w'⟩
        · rw [← hw8] at e
          exact (wipe_some e).1
        · obtain ⟨o, e, _⟩ := T.obj _ _ st7 b hb
          exact (pin' b hb o e).2
      cases b with
      | false =>
        simp only [Bool.false_eq_true, if_false] at q9 ⊢
        exact fin I9 q9
      | true =>
        simp only [if_true] at q9 ⊢
        refine thnF (pe.run _ s9 σ8 H9 _ I9 q9) fun z s10 ⟨yv, H10, I10, r10, acc, hD10, hz10, nx⟩ => ?_
        exact app_ok (X := X.blk s3 H3 scope ce fp) I10 hD10 hz10 r10 fun s11 I11 => fin I11 nx
  exact codeAny_compStart_list loop (T.self X.A 0 _ _ _ st4 loop)
/-- a list comprehension, one clause, no test; its element may lean on the maker's state -/
theorem pe_lcOwn {X : Cx} {elt tg iter : Expr} {scope : Scope} {own : List (Str × Nat)} {pos : Pos} {wi : TI} {g : TG} {te : TE} (hc : X.calm = true) (hN : X.N.Nodup) (hi : PI X tg iter wi) (ok : BlkOk X.N X.env.scope scope own)
    (hg : ∀ (s : Shared) (H : Hp) (a : Addr) (cl : List (Str × Addr)) (fp : List Addr), PG (X.blk s H scope (compEnvC scope cl a X.env) fp) tg g)
    (he : ∀ (s : Shared) (H : Hp) (a : Addr) (cl : List (Str × Addr)) (fp : List Addr) (pins : List (Addr × Obj)) (σ : L2.St), L2.Inv X pins σ H s → (∀ b ∈ fp, FpOk X pins H b) → PE (X.blk s H scope (compEnvC scope cl a X.env) fp) elt te) (hs : ∀ x, foldedSetIterable iter X.env x = pure x := by intro _; rfl) :
    PE X (.ListComp elt [⟨tg, iter, [], 0⟩] scope pos) (tLc wi g tYes te (own.map (·.2))) := by
  refine ⟨fun pins s σ H Q I h => ?_⟩
  rw [eval_ListComp]
  exact lc_own hc hN I hi ok hg (fun s H a cl fp I f => he s H a cl fp pins σ I f) hs h
end Z

/-! a known lambda called by the def that it is handed to -/
namespace Z
open PySem L2 NdefX
theorem cells_un {cl : List (Str × Addr)} {fr : List Str} {ws : List (Option V)} {h h' : Heap} {H H' : Hp} {fs ex : List Addr} (C : CellsAt cl fr ws h H) (u : Un fs ex H H' h h') (hx : ∀ y c, cl.lookup y = some c → c ∉ ex) : CellsAt cl fr ws h' H' := by
  have kp : ∀ y c, cl.lookup y = some c → ∀ v, h.IsCell c v → h'.IsCell c v := fun y c e v ⟨o, ho, hd⟩ => by
    obtain ⟨sl, q⟩ := u.any ho (C.all y c e).1 (hx y c e)
    exact ⟨_, q, hd⟩
  refine ⟨C.len, fun y c e => ?_, C.inj, fun i y e => ?_⟩
  · obtain ⟨n, v, z⟩ := C.all y c e
    refine ⟨?_, v, kp y c e v z⟩
    obtain ⟨o, ho, _⟩ := z
    exact u.free c o ho n (hx y c e)
  · obtain ⟨c, hc, hv⟩ := C.has i y e
    refine ⟨c, hc, fun v ev => ?_⟩
    obtain ⟨u', r, z⟩ := hv v ev
    exact ⟨u', r, kp y c hc _ z⟩
/-- what its parameters get: there are none, or one with its default -/
def DvO (F : LF) (vs : List V) (H : Hp) : Prop := (F.dv = none ∧ vs = []) ∨ ∃ tp i, F.dv = some tp ∧ H tp = some (.tup [.int i]) ∧ vs = [.int i]
theorem DvO.ex {F : LF} {vs : List V} {H H' : Hp} (d : DvO F vs H) (e : Ex H H') : DvO F vs H' := d.imp id fun ⟨tp, i, a, b, c⟩ => ⟨tp, i, a, e _ _ b, c⟩
structure Bnd (F : LF) (ps : List Str) : Prop where
  non : F.dv = none → ps = [] ∧ ∀ pm ctv, bindArgs (F.fd pm ctv) ⟨[], []⟩ = pure []
  one : ∀ tp, F.dv = some tp → ∃ a, ps = [a] ∧ ∀ pm ctv, ∃ k, bindArgs (F.fd pm ctv) ⟨[], []⟩ = seqItems? (.ref tp) >>= k ∧ ∀ v, k (some #[v]) = pure [(a, v)]
abbrev LF.nf (F : LF) : NF := ⟨"<lambda>", F.qual, F.params, [], F.scope, F.cl, F.c⟩
section
variable {P : Program} {w : World} {K : PySem.W.Frag} {mg : Str → Option Value} {base : Heap} {N ps fr : List Str} {F : LF} {f : Addr} {k : Nat} {A : Around} {outer : List Env} {s : Shared} {H : Hp} {vs : List V} {ws : List (Option V)} {Q : VK} {E : XK}
theorem lam_call (S : NScope N ps fr F.scope) (B : Bnd F ps) (hr : Room (k + 1) A) (e0 : Env0 P w K mg base A outer s H) (hf : H f = some (LamO f F)) (hc : H F.c = some (LamX.CodeO F.c F.qual)) (C : CellsAt F.cl fr ws s.heap H) (d : DvO F vs H)
    (hbody : zL P w K mg base N F.scope k F.body E (startF N vs ws) H Q) : codeAny (model P w) A (.call (.ref f) ⟨[], []⟩) (CR (L2.CX P w) outer P w H s Q E) s := by
  obtain ⟨pm, ctv, ho⟩ := lamO_at e0.hok hf
  have lim : s.heap.NoLimit := e0.mod.nolimit.keeps fun b o e => (e0.bs b o e).1
  have main : ∀ us : List Value, vs.length = ps.length → Vals vs us → wpAny (model P w) A.in1 (newFunctionEnv F.scope mainGlobals F.cl (ps.zip us) (F.qual ++ ".<locals>.") (some f) (.ref F.c) none builtinsNs)
      (fun env s2 => s2.heap.NoLimit ∧ codeAny (model P w) A (.expr F.body env) (CR (L2.CX P w) outer P w H s Q E) s2) (fun e s' => CR (L2.CX P w) outer P w H s Q E (.error e) s') s := fun us hl r => by
    refine wpAny_newFunctionEnv S.nocell (fun ⟨n, _⟩ hy => S.par n (List.of_mem_zip hy).1) (fun h₁ hns hsb => ⟨lim.fresh _ hsb, ?_⟩) S.kind
    have kp : ∀ b o, s.heap.get? b = some o → h₁.get? b = some o := fun b o e => hsb.extBut b o (Nat.ne_of_lt (Heap.lt_size e)) (Heap.get?_push_of_some _ e)
    have I : Inv (ncx (L2.CX P w) P w K mg base N F.nf f A outer s H E) [] (startF N vs ws) H { s with heap := h₁, toks := s.toks + (ps.zip us).length } := inv_startN (F := F.nf) S hr.hd e0 hl r C hns kp
    have hb := hbody (ncx (L2.CX P w) P w K mg base N F.nf f A outer s H E) ⟨rfl, rfl, rfl, rfl, rfl, rfl, rfl, rfl, hr.deeper _, passes_of rfl, S.nd⟩ (takes_of rfl rfl rfl rfl)
    refine PySem.W.kla_codeExpr (wpAny_mono ((zE_ok F.body).run [] _ _ H Q I hb) (fun v s' hq => ?_) fun e s' hq => hq)
    obtain ⟨w', H', J', rv, q⟩ := hq
    exact ⟨w', H', J'.os, J'.bare, J'.base, J'.hok, rv, q⟩
  refine PySem.W.kla_callFunE hr.depth ho rfl S.co S.gen rfl (codeO_at e0.hok hc) ?_
  rcases d with ⟨e1, rfl⟩ | ⟨tp, i, e1, e2, rfl⟩
  · obtain ⟨rfl, hb⟩ := B.non e1
    rw [hb]
    exact wpAny_pure (main [] rfl .nil)
  · obtain ⟨a, rfl, hb⟩ := B.one tp e1
    obtain ⟨kk, hb1, hb2⟩ := hb pm ctv
    rw [hb1]
    obtain ⟨_, us, r, o, ho2, _, n, hd2⟩ := e0.hok tp _ e2
    refine wpAny_bind (wpAny_seqItems ho2 hd2 ?_)
    obtain ⟨u, rfl⟩ : ∃ u, us = [u] := by
      cases r with
      | cons a b => cases b; exact ⟨_, rfl⟩
    rw [hb2]
    exact wpAny_pure (main [u] rfl r)
end
section
variable {X : Cx} {P : Program} {w : World} {K : PySem.W.Frag} {mg : Str → Option Value} {base : Heap} {N : List Str} {sc : Scope} {k j i : Nat} {σ : L2.St} {H : Hp} {Q : VK} {x y : Str} {TT : (XK → Hp → VK → Prop) → Hp → VK → Prop} {p py pos : Pos}
  {F : LF} {f : Addr} {Nl ps fr : List Str} {vs : List V} {ws : List (Option V)}
/-- x(y), y the lambda F: x makes TT of its reading -/
theorem e_lamC (C : Ctx X P w K mg base N sc k) (G : Gets P w K mg base x j TT) (hj : j + 2 ≤ k) (n : Nm X y i) (hs : σ[i]? = some (some (.ref f))) (hf : H f = some (LamO f F)) (hc : H F.c = some (LamX.CodeO F.c F.qual)) (d : DvO F vs H) (S : NScope Nl ps fr F.scope) (B : Bnd F ps)
    (CA : ∀ pins s, L2.Inv X pins σ H s → CellsAt F.cl fr ws s.heap H)
    (h : TT (fun E H' Q' => H' f = some (LamO f F) ∧ DvO F vs H' ∧ zL P w K mg base Nl F.scope j F.body E (startF Nl vs ws) H' Q') H Q)
    (hg : gloB sc x = true := by decide +kernel) (hdb : (x == ("__debug__" : Str)) = false := by decide) (hd : (y == ("__debug__" : Str)) = false := by decide) (hcd : (y == ("__classdict__" : Str)) = false := by decide) : zE X (.Call (.Name x p) [.Name y py] [] pos) σ H Q := by
  obtain ⟨g, fd, pg, bg, sg, a, Ng, F0, gm, hb, Sg, hN, hv, hda, hca, GT⟩ := G.ex
  obtain ⟨oc, od, dV, kV, doc, pm, an, cdv, ct, osl, rfl, lk, hcg, _, _⟩ := F0.ex
  have hgl := C.gl hg
  obtain ⟨rfl, rfl, rfl, rfl, rfl, rfl, rfl, hcalm, hr, _, nd⟩ := C
  unfold zE
  intro pins s I
  refine wpAny_Call_Name_kw (ld_glob I hgl gm ?_ hdb)
  refine PySem.W.callWith_K (h₀ := X.base) I.ok.mod.kin F0.kp ?_ (by rfl) (by rfl)
  show wpAny _ _ (spliced ((false, eval (.Name y py) X.env) :: backTo pos (starEach [] X.env))) _ _ s
  refine Calls.spliced_cons (thn ((pe_var (pos := py) (i := i) n.ix n.vis hd hcd).run pins s σ H (fun v H1 => v = .ref f ∧ H1 = H) I ⟨.ref f, hs, rfl, rfl⟩) fun u s1 ⟨v, H1, I1, r1, q1⟩ => ?_)
  obtain ⟨rfl, rfl⟩ := q1
  obtain rfl : u = Value.ref f := r1
  refine Calls.spliced_nil ⟨I1.kIn, ?_⟩
  have C1 := CA pins s1 I1
  have rc : codeAny (model X.prog X.w) X.A (.call (.ref g) ⟨[.ref f], []⟩) (CR C8.CX0 X.stack X.prog X.w H1 s1 Q C8.E0) s1 := by
    refine LamX.run_ofS (N := Ng) (ps := [a]) (us := [.ref f]) (vs := [.ref f]) lk hcg Sg (hr.mono hj) I1.env0 (hb s1 [.ref f] I1.kIn rfl) (.cons rfl .nil) rfl fun hr' => ?_
    refine Exists.elim (GT X rfl rfl rfl rfl rfl (hr.mono (by omega)) cdv F.qual f F.c s1 H1 Q _ (fun W pn xe E p1 p2 tk hW => ?_) hc h) fun t' z => ⟨t', z.1.nox, z.2⟩
    · refine ⟨fun pinsZ sZ σZ HZ Q IZ hz => ?_⟩
      obtain ⟨hs, hc, hf, d, hl⟩ := hz
      refine wpAny_Call_Name_kw (thn ((pe_var (pos := p1) (i := 0) hN hv hda hca).run pinsZ sZ σZ HZ (fun v H1 => v = .ref f ∧ H1 = HZ) IZ ⟨.ref f, hs, rfl, rfl⟩) fun u s2 ⟨v, H2, I2, r2, q2⟩ => ?_)
      obtain ⟨rfl, rfl⟩ := q2
      obtain rfl : u = Value.ref f := r2
      obtain ⟨pm2, ctv2, ho2⟩ := lamO_at I2.hok hf
      refine PySem.W.callWith_F0 ⟨_, _, _, _, ho2⟩ ?_
      have un : Un (frs X.stack) [] H1 H2 s1.heap s2.heap := I2.base
      have rc := lam_call S B hr' I2.env0 hf hc (cells_un C1 un fun _ _ _ => List.not_mem_nil) d hl
      refine wpAny_call (codeAny_mono rc fun r s' hq => ?_)
      cases r with
      | error e => exact passes_call tk hW pinsZ σZ H2 s2 e s' I2 hq
      | ok fl =>
        cases fl with
        | ret u => exact I2.after hq
        | next => exact False.elim hq
        | brk => exact False.elim hq
        | cont => exact False.elim hq
  refine wpAny_call (codeAny_mono rc fun r s2 hq => ?_)
  cases r with
  | error e => exact (show False from hq).elim
  | ok fl =>
    cases fl with
    | ret u => exact I1.after hq
    | next => exact False.elim hq
    | brk => exact False.elim hq
    | cont => exact False.elim hq
end
end Z

/-! a comprehension whose element calls the maker's lambdas -/
namespace Z
open PySem L2 NdefX
section
variable {X : Cx} {P : Program} {w : World} {K : PySem.W.Frag} {mg : Str → Option Value} {base : Heap} {N : List Str} {sc : Scope} {k : Nat}
variable {σ σ2 : L2.St} {H : Hp} {Q : VK} {tg : Expr}
/-- an element's reading in a block that the maker's state σ began -/
def zEo (X : Cx) (σ0 : L2.St) (scope : Scope) (e : Expr) : TE := fun σ H Q => ∀ s H0 c0 cl fp pins, L2.Inv X pins σ0 H0 s → (∀ b ∈ fp, FpOk X pins H0 b) → zE (X.blk s H0 scope (compEnvC scope cl c0 X.env) fp) e σ H Q
theorem zEo_mono {scope : Scope} {e : Expr} {Q Q' : VK} (h : zEo X σ scope e σ2 H Q) (k : ∀ b H', Q b H' → Q' b H') : zEo X σ scope e σ2 H Q' := fun s H0 c0 cl fp pins I f => zE_mono (h s H0 c0 cl fp pins I f) k
/-- the block X1 stands over the maker's state -/
def Own (X X1 : Cx) (σ : L2.St) : Prop := X.Ok ∧ ∀ cl fr js, Caps X cl fr js → ∀ pins σ2 H2 s, L2.Inv X1 pins σ2 H2 s → CellsAt cl fr (js.map (slotAt σ)) s.heap H2
theorem eo_intro {scope : Scope} {e : Expr} (C : Ctx X P w K mg base N sc k) (h : ∀ X1, Ctx X1 P w K mg base N (relS scope sc) k → Own X X1 σ → zE X1 e σ2 H Q) : zEo X σ scope e σ2 H Q := fun s H0 c0 cl fp pins I f =>
  h _ (C.blk s H0 scope c0 cl fp) ⟨I.ok, fun cl1 fr js cp pins1 σ3 H3 s3 I3 => cells_un (cells_of I cp) I3.base fun y c e hc => (f c hc).2.2.2.2.1 y c (cp.sub y c e) rfl⟩
/-- [elt for x in it], the element a new tuple g i -/
theorem e_lcO {x : Str} {j : Nat} {px : Pos} {elt it : Expr} {scope : Scope} {own : List (Str × Nat)} {pos : Pos} (C : Ctx X P w K mg base N sc k) (hb : blkC N sc scope own = true) (h1 : N[j]? = some x) (h2 : lclB (relS scope sc) x = true)
    (hw : ∀ v, wipe ((wipe σ (own.map (·.2))).set j (some v)) (own.map (·.2)) = wipe σ (own.map (·.2)))
    (h : zI X (.Name x px) it σ H fun J H1 => ∃ n S Y, ∃ g : Nat → List V, Walk J n S Y ∧ n ≤ 100000 ∧ (∀ H', Ex H1 H' → S H') ∧
      (∀ i v H', i < n → Ex H1 H' → Y i v H' → ∀ X1, Ctx X1 P w K mg base N (relS scope sc) k → Own X X1 σ → zE X1 elt ((wipe σ (own.map (·.2))).set j (some v)) H' fun y H4 => Ex H' H4 ∧ ∃ T, y = .ref T ∧ H4 T = some (.tup (g i))) ∧
      ∀ D ys H', H1 D = none → Ex H1 H' → H' D = some (.lst ys) → ys.length = n → (∀ i, i < n → ∃ T, ys[i]? = some (.ref T) ∧ H' T = some (.tup (g i))) → Q (.ref D) H')
    (hs : ∀ x, foldedSetIterable it X.env x = pure x := by intro _; rfl) : zE X (.ListComp elt [⟨.Name x px, it, [], 0⟩] scope pos) σ H Q := by
  unfold zE
  intro pins s I
  rw [eval_ListComp]
  refine lc_own (own := own) (wi := zI X (.Name x px) it) (g := zGb X scope (.Name x px)) (te := zEo X σ scope elt) C.calm (by rw [C.nms]; exact C.nd) I (zI_ok _ it) (by rw [C.nms, C.scp]; exact blkOk_by hb)
    (fun s H0 c0 cl fp => ⟨fun ps s' σ H v u Q I r q => (zG_ok (.Name x px)).run ps s' σ H v u Q I r (q s H0 c0 cl fp)⟩)
    (fun s H0 c0 cl fp I f => ⟨fun ps s' σ H Q I' q => (zE_ok elt).run ps s' σ H Q I' (q s H0 c0 cl fp pins I f)⟩) hs ?_
  show zI X (.Name x px) it σ H _
  refine zI_mono h fun J H1 ⟨n, S, Y, g, W, hn, hS, he, hd⟩ D hD => ?_
  refine ⟨fun i m H' => m = n - i ∧ i ≤ n ∧ ∃ ys, H' D = some (.lst ys) ∧ Ex H1 H' ∧ ys.length = i ∧ ∀ t, t < i → ∃ T, ys[t]? = some (.ref T) ∧ H' T = some (.tup (g t)), ⟨n, rfl, Nat.zero_le _, [], upd_same, Evl.Ex.new hD, rfl, fun t ht => by omega⟩, ?_⟩
  rintro i m H2 ⟨rfl, hi, ys, a1, a2, a3, a4⟩
  by_cases hlt : i < n
  · refine .inr ⟨W.go i H2 hlt (hS H2 a2), fun H' => ∃ ys, H' D = some (.lst ys) ∧ Ex H1 H' ∧ ys.length = i + 1 ∧ ∀ t, t < i + 1 → ∃ T, ys[t]? = some (.ref T) ∧ H' T = some (.tup (g t)), fun H' ⟨ys, a, b, c, d⟩ => ⟨n - (i + 1), by omega, rfl, hlt, ys, a, b, c, d⟩, fun v H' y => ?_⟩
    obtain ⟨e1, y1⟩ := W.yld i H2 v H' hlt (hS H2 a2) y
    have eH : Ex H1 H' := a2.trans e1
    refine gb_intro C fun X1 C1 => g_name (C1.ns h1 (by unfold locB; unfold lclB at h2; rw [h2]; rfl) (.inr h2)) ⟨hw v, ?_⟩
    show zEo X σ scope elt ((wipe σ (own.map (·.2))).set j (some v)) H' _
    refine eo_intro C fun X2 C2 O2 => zE_mono (he i v H' hlt eH y1 X2 C2 O2) fun z H4 ⟨e4, T, ez, eT⟩ => ?_
    subst ez
    have hD4 : H4 D = some (.lst ys) := e4 _ _ (e1 _ _ a1)
    have ne : T ≠ D := fun z => by rw [z, hD4] at eT; cases eT
    refine ⟨ys, hD4, small_lt (by omega), ys ++ [.ref T], upd_same, Xb.ex (eH.trans e4) hD .upd, by rw [List.length_append, a3]; rfl, fun t ht => ?_⟩
    by_cases e : t = i
    · subst e
      exact ⟨T, by rw [← a3]; simp, by rw [upd_ne ne]; exact eT⟩
    · obtain ⟨T', b1, b2⟩ := a4 t (by omega)
      have b3 : H4 T' = some (.tup (g t)) := e4 _ _ (e1 _ _ b2)
      exact ⟨T', by rw [List.getElem?_append_left (by omega)]; exact b1, by rw [upd_ne (fun z => by rw [z, hD4] at b3; cases b3)]; exact b3⟩
  · have e : i = n := by omega
    subst e
    exact .inl ⟨W.stop H2 (hS H2 a2), hd D ys H2 hD a2 a1 a3 a4⟩
end
/-! ### a lambda's captured names, its standing -/
def capB (N : List Str) (sc scope : Scope) (fr : List Str) (js : List Nat) : Bool :=
  scope.names.all (fun y => !decide (y.2 = .free) || ((sc.names.lookup y.1 == some .cell) || (sc.names.lookup y.1 == some .free))) && fr.all (fun y => decide ((y, NameKind.free) ∈ scope.names)) && decide (js.map (fun j => N[j]?) = fr.map some)
theorem caps_by {X : Cx} {P : Program} {w : World} {K : PySem.W.Frag} {mg : Str → Option Value} {base : Heap} {N : List Str} {sc scope : Scope} {k : Nat} {fr : List Str} {js : List Nat} (C : Ctx X P w K mg base N sc k) (ok : X.Ok) (h : capB N sc scope fr js = true) : Caps X (cloFrom X.env.cells scope.names []) fr js := by
  unfold capB at h
  simp only [Bool.and_eq_true, Bool.not_eq_true', decide_eq_true_eq, List.all_eq_true, Bool.or_eq_true, decide_eq_false_iff_not, beq_iff_eq] at h
  obtain ⟨⟨h1, h2⟩, h3⟩ := h
  refine Caps.made ok (fun y hy e => ?_) h2 (by rw [C.nms]; exact h3)
  rw [C.scp]
  exact (h1 y hy).elim (fun z => absurd e z) id
/-- the lambda F at f stands; its parameters get vs -/
structure LamK (F : LF) (vs : List V) (H : Hp) (f : Addr) : Prop where
  hf : H f = some (LamO f F)
  hc : H F.c = some (LamX.CodeO F.c F.qual)
  dv : DvO F vs H
theorem LamK.ex {F : LF} {vs : List V} {H H' : Hp} {f : Addr} (l : LamK F vs H f) (e : Ex H H') : LamK F vs H' f := ⟨e _ _ l.hf, e _ _ l.hc, l.dv.ex e⟩
theorem LamK.extN {F : LF} {vs : List V} {H H' : Hp} {f : Addr} (l : LamK F vs H f) (e : LamX.ExtN H H') : LamK F vs H' f :=
  ⟨e _ _ l.hf lamO_ne, e _ _ l.hc LamX.codeO_ne, l.dv.imp id fun ⟨tp, i, a, b, c⟩ => ⟨tp, i, a, e _ _ b (fun _ z => by cases z), c⟩⟩
theorem bnd_no {F : LF} (hp : F.params = ⟨[], [], none, [], [], none, []⟩) (hd : F.dv = none) : Bnd F [] := by
  obtain ⟨q, pa, b, sc, cl, c, dv⟩ := F
  have hp : pa = _ := hp
  have hd : dv = _ := hd
  subst hp hd
  exact ⟨fun _ => ⟨rfl, fun _ _ => rfl⟩, fun _ z => by cases z⟩
theorem bnd_one {F : LF} {a : Str} {po : Pos} {e : Expr} {tp : Addr} (hp : F.params = ⟨[], [⟨a, none, po⟩], none, [], [], none, [e]⟩) (hd : F.dv = some tp) : Bnd F [a] := by
  obtain ⟨q, pa, b, sc, cl, c, dv⟩ := F
  have hp : pa = _ := hp
  have hd : dv = _ := hd
  subst hp hd
  refine ⟨fun z => (by cases z), fun tp' z => ⟨a, rfl, fun pm ctv => ?_⟩⟩
  cases z
  refine ⟨?k, ?h1, fun v => ?h2⟩
  case h1 =>
    unfold bindArgs
    rfl
  case h2 =>
    simp [List.lookup]
end Z

namespace Law
open PySem L2 Z
local macro_rules | `(tactic| kpt_turns) => `(tactic| first
  | assumption
  | with_reducible exact upd_same
  | with_reducible exact SqL.of upd_same
  | exact SqL.of (by assumption)
  | exact SqT.of (by assumption)
  | (with_reducible apply SqL.of; kpt_turns)
  | (with_reducible apply SqT.of; kpt_turns)
  | (with_reducible apply get_ne; (case h => assumption); kpt_turns)
  | (with_reducible apply ex_g; (case e => assumption); kpt_turns)
  | (with_reducible apply ex_l; (case e => assumption); kpt_turns)
  | (with_reducible apply ex_t; (case e => assumption); kpt_turns))
local macro_rules | `(tactic| tb_rel) => `(tactic| first
  | ((with_reducible apply idE); first
    | ((with_reducible apply e_name); (case n => with_reducible assumption); (case hv => rfl); (case hd => decide); (case hcd => decide))
    | with_reducible apply e_int
    | with_reducible apply e_str
    | with_reducible apply e_op
    | ((with_reducible apply e_cmp); (case hm => rfl))
    | ((with_reducible apply e_cal0); (case C => assumption); (case c => with_reducible assumption); (case hj => first | decide | omega); (case hg => decide +kernel); (case hdb => decide); (case he => rfl); (case hpl => rfl))
    | ((with_reducible apply e_calR); (case C => assumption); (case c => with_reducible assumption); (case tk => with_reducible assumption); (case hj => first | decide | omega); (case hg => decide +kernel); (case hdb => decide); (case he => rfl); (case hpl => rfl))
    | ((with_reducible apply e_calN); (case C => assumption); (case c => with_reducible assumption); (case hj => first | decide | omega); (case hg => decide +kernel); (case hdb => decide); (case he => rfl); (case hpl => rfl))
    | ((with_reducible apply e_ix); (case hs => exact fun _ _ => rfl))
    | ((with_reducible apply e_len); (case C => assumption); (case hm => with_reducible assumption); (case hg => decide +kernel); (case he => rfl))
    | with_reducible apply e_bl
    | with_reducible apply e_non
    | with_reducible apply e_slice
    | with_reducible apply e_if
    | with_reducible apply e_not
    | with_reducible apply e_and
    | with_reducible apply e_or
    | with_reducible apply e_bone
    | with_reducible apply e_un
    | ((with_reducible apply e_append); (case hp => exact pe_bm PySem.F.plainAttrs_list PySem.F.slot_list_append PySem.F.type_list_append mt_append (zE_ok _) (zA_ok _)); (case he => rfl))
    | ((with_reducible apply e_pop); (case hp => exact pe_bm0 PySem.F.plainAttrs_list PySem.F.slot_list_pop PySem.F.type_list_pop mt_pop (zE_ok _)))
    | ((with_reducible apply e_join); (case hs => rfl); (case hb => rfl); (case hl => rfl))
    | ((with_reducible apply e_sorted); (case C => assumption); (case hm => with_reducible assumption); (case hg => decide +kernel); (case he => rfl))
    | ((with_reducible apply e_gstr); (case C => assumption); (case g => with_reducible assumption); (case hg => decide +kernel); (case hd => decide))
    | ((with_reducible apply e_gint); (case C => assumption); (case g => with_reducible assumption); (case hg => decide +kernel); (case hd => decide))
    | ((with_reducible apply e_int1); (case C => assumption); (case hm => with_reducible assumption); (case hg => decide +kernel); (case he => rfl))
    | ((with_reducible apply e_isi); (case C => assumption); (case hm => with_reducible assumption); (case hU => with_reducible assumption); (case hu => decide); (case hv => decide +kernel); (case hg => decide +kernel); (case hg2 => decide +kernel); (case hn => decide); (case hd => decide); (case he => rfl); (case he2 => rfl); (case hpl => rfl))
    | ((with_reducible apply e_all); (case C => assumption); (case hm => with_reducible assumption); (case hg => decide +kernel); (case he => rfl))
    | ((with_reducible apply e_any); (case C => assumption); (case hm => with_reducible assumption); (case hg => decide +kernel); (case he => rfl))
    | ((with_reducible apply e_sum); (case C => assumption); (case hm => with_reducible assumption); (case hg => decide +kernel); (case he => rfl))
    | ((with_reducible apply e_min); (case C => assumption); (case hm => with_reducible assumption); (case hg => decide +kernel); (case he => rfl))
    | ((with_reducible apply e_max); (case C => assumption); (case hm => with_reducible assumption); (case hg => decide +kernel); (case he => rfl))
    | ((with_reducible apply e_chain); (case hm => with_unfolding_all rfl)))
  | ((with_reducible apply idO); first
    | with_reducible apply o_add
    | with_reducible apply o_sub
    | with_reducible apply o_iadd
    | with_reducible apply o_isub
    | with_reducible apply o_lt
    | with_reducible apply o_le
    | with_reducible apply o_gt
    | with_reducible apply o_ge
    | with_reducible apply o_eqI
    | with_reducible apply o_neI
    | with_reducible apply o_eqS
    | with_reducible apply o_neS
    | with_reducible apply o_inC
    | with_reducible apply o_ninC
    | with_reducible apply o_isN
    | with_reducible apply o_notN
    | with_reducible apply o_eqB
    | with_reducible apply o_neB
    | ((with_reducible apply o_mulR); (case hi => decide))
    | ((with_reducible apply o_mulL); (case hi => decide))
    | ((with_reducible apply o_mod); (case hj => first | decide | omega))
    | ((with_reducible apply o_div); (case hj => first | decide | omega))
    | ((with_reducible apply o_pow); (case hj => decide)))
  | ((with_reducible apply idX); first
    | ((with_reducible apply x_l); (case hl => kpt_turns); (case ha => rfl))
    | ((with_reducible apply x_t); (case hl => kpt_turns); (case ha => rfl)))
  | ((with_reducible apply idSet); first
    | ((with_reducible apply st_lU); (case hj => rfl))
    | ((with_reducible apply st_l); (case hl => kpt_turns); (case hj => rfl)))
  | ((with_reducible apply idB); first
    | with_reducible apply b_cons
    | with_reducible apply b_nil)
  | ((with_reducible apply idS); first
    | ((with_reducible apply s_set); (case n => with_reducible assumption); (case hs => rfl))
    | with_reducible apply s_if
    | with_reducible apply s_ret
    | ((with_reducible apply s_expr); (case hs => rfl))
    | ((with_reducible apply s_aug); (case n => with_reducible assumption); (case hv => rfl))
    | with_reducible apply s_pass
    | with_reducible apply s_break
    | with_reducible apply s_continue
    | with_reducible apply s_retN
    | ((with_reducible apply s_pair); (case C => assumption); (case nx' => with_reducible assumption); (case ny => with_reducible assumption); (case hij => decide); (case hx => decide +kernel); (case hy => decide +kernel); (case hw => decide +kernel); (case hs2 => rfl); (case hs1 => rfl); (case hs => rfl))
    | ((with_reducible apply s_tup); (case C => assumption); (case hw => decide +kernel); (case hn => rfl); (case hst => rfl); (case hs => rfl); (case h1 => rfl))
    | ((with_reducible apply s_asg); (case hs => rfl); (case hw => rfl); (case h1 => rfl)))
  | ((with_reducible apply idT); first
    | ((with_reducible apply t_cmp); (case hm => rfl))
    | with_reducible apply t_not
    | with_reducible apply t_and
    | with_reducible apply t_or
    | ((with_reducible apply t_chain); (case hm => with_unfolding_all rfl))
    | ((with_reducible apply t_val); (case he => intro _; rfl)))
  | ((with_reducible apply idA); first
    | ((with_reducible apply a_cons); (case hs => rfl))
    | with_reducible apply a_nil)
  | ((with_reducible apply idW); first
    | with_reducible apply w_and
    | with_reducible apply w_or
    | with_reducible apply w_and1
    | with_reducible apply w_or1)
  | ((with_reducible apply idG); first
    | ((with_reducible apply g_name); (case n => with_reducible assumption))
    | ((with_reducible apply g_sub); (case hp => exact pg_sub (zE_ok _) (zE_ok _) zSet_ok)))
  | ((with_reducible apply idGs); first
    | ((with_reducible apply gs_cons); (case hs => rfl))
    | with_reducible apply gs_nil)
  | ((with_reducible apply idP); first
    | with_reducible apply p_none
    | with_reducible apply p_some)
  | ((with_reducible apply idU); first
    | with_reducible apply o_neg)
  | ((with_reducible apply idC); first
    | with_reducible apply c_int
    | ((with_reducible apply c_lenL); (case hl => kpt_turns))
    | ((with_reducible apply c_lenT); (case hl => kpt_turns)))
  | with_reducible apply bl_ok
  | with_reducible apply int_ok
  | with_reducible apply str_ok
  | with_reducible apply if_t
  | with_reducible apply if_f
  | with_reducible apply ty_non
  | with_reducible apply ty_bl
  | with_reducible apply ty_int
  | with_reducible apply ty_str
  | ((with_reducible apply if_ct); (case hc => first | decide | rfl))
  | ((with_reducible apply if_cf); (case hc => first | decide | rfl))
  | ((with_reducible apply ty_lst); (case hx => kpt_turns))
  | ((with_reducible apply ty_tup); (case hx => kpt_turns)))
local macro_rules | `(tactic| kpc_turns) => `(tactic| (tb_rel; repeat tb_rel))
def topS (i : Nat) : Stmt := PySem.Challenge.pw_boughtoll_k02_subtrees.main.body.getD i (.Pass ⟨0, 0, 0, 0⟩)
abbrev FnP (K : PySem.W.Frag) (x : Str) (st : Stmt) (f : Addr) (fd : FuncData) : Prop := FunD K x x (defArgs st) (defBody st) (defScope st) [] [] f fd
def forBody : Stmt → List Stmt
  | .For _ _ b _ _ => b
  | _ => []
def stAt (b : List Stmt) (i : Nat) : Stmt := b.getD i (.Pass ⟨0, 0, 0, 0⟩)

/-! letters, arity, first_fault -/
def zLeaves : Str := "abcdefgh"
def zSingles : Str := "ijklmnop"
def zLetters : Str := "abcdefghijklmnopqrstuvwxyz"
def ar (c : Nat) : Nat := if c ∈ tl zLeaves then 0 else if c ∈ tl zSingles then 1 else 2
def fault (w i : Nat) : List Nat → Option Nat
  | [] => if w = 0 then none else some i
  | c :: cs => if w = 0 ∨ c ∉ tl zLetters then some i else fault (w + ar c - 1) (i + 1) cs
def optI : Option Nat → V
  | none => .non
  | some i => .int i
abbrev s_arity : Stmt := topS 32
abbrev N_arity : List Str := ["letter"]
abbrev P_arity : List Str := ["letter"]
theorem sc_arity : FnScope N_arity P_arity (defScope s_arity) := ⟨rfl, rfl, rfl, by decide +kernel, rfl, by decide +kernel, by decide +kernel⟩
abbrev s_first_fault : Stmt := topS 33
abbrev N_first_fault : List Str := ["text", "wanted", "at", "letter"]
abbrev P_first_fault : List Str := ["text"]
theorem sc_first_fault : FnScope N_first_fault P_first_fault (defScope s_first_fault) := ⟨rfl, rfl, rfl, by decide +kernel, rfl, by decide +kernel, by decide +kernel⟩

def spArity : Sp := fun vs H Q _ => ∃ c : Nat, vs = [.str ⟨#[c]⟩] ∧ Q (.int (ar c)) H
def spFault : Sp := fun vs H Q _ => ∃ z : Str, vs = [.str z] ∧ z.length ≤ 100000 ∧ ∀ H', Ex H H' → Q (optI (fault 1 0 (tl z))) H'
section
variable {P : Program} {w : World} {K : PySem.W.Frag} {mg : Str → Option Value} {base : Heap}
theorem ok_arity {f : Addr} {fd : FuncData} (F : FnP K "arity" s_arity f fd) (g1 : Gs mg "LEAVES" zLeaves) (g2 : Gs mg "SINGLES" zSingles) : FnOk P w K mg base CX0 1 f fd P_arity spArity := by
  refine fn_ok F sc_arity (fun vs H Q E ⟨c, h, _⟩ => by rw [h]; rfl) fun X vs H Q E C hfn ⟨c, hv, hq⟩ => ?_
  subst hv
  have n_letter : Nm X "letter" 0 := C.nm rfl (by decide +kernel)
  unfold ar at hq
  refine b_cons ?_
  kpc_turns
  refine if_d (fun hc => ?_) fun hc => ?_
  · rw [if_pos hc] at hq
    kpc_turns
    exact hq
  · rw [if_neg hc] at hq
    kpc_turns
    refine if_d (fun hd => ?_) fun hd => ?_
    · rw [if_pos hd] at hq
      kpc_turns
      exact hq
    · rw [if_neg hd] at hq
      kpc_turns
      exact hq
theorem ok_fault {f : Addr} {fd : FuncData} (F : FnP K "first_fault" s_first_fault f fd) (g1 : Gs mg "LETTERS" zLetters) (mE : mg "enumerate" = none) (mL : mg "len" = none) (cA : Cal P w K mg base CX0 "arity" 1 1 spArity) :
    FnOk P w K mg base CX0 2 f fd P_first_fault spFault := by
  refine fn_ok F sc_first_fault (fun vs H Q E ⟨c, h, _⟩ => by rw [h]; rfl) fun X vs H Q E C hfn ⟨z, hv, hz, hq⟩ => ?_
  subst hv
  have n_text : Nm X "text" 0 := C.nm rfl (by decide +kernel)
  have n_wanted : Nm X "wanted" 1 := C.nm rfl (by decide +kernel)
  have n_at : Nm X "at" 2 := C.nm rfl (by decide +kernel)
  have n_letter : Nm X "letter" 3 := C.nm rfl (by decide +kernel)
  have w_wanted : Ns X "wanted" 1 := C.ns rfl (by decide +kernel) (.inl (hfn _))
  have w_at : Ns X "at" 2 := C.ns rfl (by decide +kernel) (.inl (hfn _))
  have w_letter : Ns X "letter" 3 := C.ns rfl (by decide +kernel) (.inl (hfn _))
  refine b_cons ?_
  kpc_turns
  refine s_for C (i_enumS (C.gl (by decide +kernel)) (by rw [C.mgl]; exact mE) ?_)
  kpc_turns
  refine ⟨_, _, _, fun i σ H' => ∃ (wd : Nat) (o2 o3 : Option V), σ = [some (.str z), some (.int wd), o2, o3] ∧ Ex H H' ∧ fault 1 0 (tl z) = fault wd i ((tl z).drop i), walk_enumS z, ⟨1, none, none, rfl, Evl.Ex.refl _, rfl⟩, fun _ _ _ _ _ => trivial, ?_, ?_⟩
  · rintro i x σ H1 H2 hi ⟨wd, o2, o3, rfl, e1, hf⟩ e2 ⟨T, c, rfl, hc, hT⟩
    refine g_tup C (SqT.of hT) ?_
    rw [List.drop_eq_getElem_cons hi] at hf
    have hc' : (tl z)[i] = c := (List.getElem?_eq_some_iff.mp hc).2
    rw [hc'] at hf
    conv at hf => rhs; unfold fault
    kpc_turns
    refine if_d (fun h0 => ?_) fun h0 => ?_
    · kpc_turns
      rw [if_pos (.inl (by omega))] at hf
      rw [hf] at hq
      exact hq _ (e1.trans e2)
    · kpc_turns
      refine if_nd (fun h1 => ?_) fun h1 => ?_
      · kpc_turns
        rw [if_pos (.inr h1)] at hf
        rw [hf] at hq
        exact hq _ (e1.trans e2)
      · kpc_turns
        refine ⟨c, rfl, ?_⟩
        kpc_turns
        rw [if_neg (by rintro (h | h); exact h0 (by omega); exact h h1)] at hf
        refine ⟨wd + ar c - 1, some (.int i), some (.str ⟨#[c]⟩), ?_, e1.trans e2, hf⟩
        have : ((wd + ar c - 1 : Nat) : Int) = (wd : Int) + ((ar c : Int) - 1) := by omega
        rw [this]
        rfl
  · rintro σ H1 ⟨wd, o2, o3, rfl, e1, hf⟩
    rw [List.drop_length] at hf
    conv at hf => rhs; unfold fault
    kpc_turns
    refine if_d (fun h0 => ?_) fun h0 => ?_
    · kpc_turns
      rw [if_pos (by omega)] at hf
      rw [hf] at hq
      exact hq _ e1
    · kpc_turns
      rw [if_neg (by omega)] at hf
      refine c_lenS (sz_le hz) ?_
      rw [hf] at hq
      rw [lenI_tl]
      exact hq _ e1
end

/-! reading words: plain facts -/
/-- what is still wanted behind a word -/
def con : Nat → List Nat → Option Nat
  | w, [] => some w
  | 0, _ :: _ => none
  | w + 1, c :: cs => if c ∈ tl zLetters then con (w + ar c) cs else none
def skp : Nat → List Nat → Nat
  | 0, _ => 0
  | _ + 1, [] => 0
  | w + 1, c :: cs => 1 + skp (w + ar c) cs
abbrev Tree (cs : List Nat) : Prop := con 1 cs = some 0
theorem con_nil (w : Nat) : con w [] = some w := by unfold con; rfl
theorem con_zero (c : Nat) (cs : List Nat) : con 0 (c :: cs) = none := by unfold con; rfl
theorem con_cons {w c : Nat} {cs : List Nat} {v : Nat} (h : con w (c :: cs) = some v) : ∃ u, w = u + 1 ∧ c ∈ tl zLetters ∧ con (u + ar c) cs = some v := by
  cases w with
  | zero => rw [con_zero] at h; cases h
  | succ u =>
    unfold con at h
    split at h
    · exact ⟨u, rfl, ‹_›, h⟩
    · cases h
theorem con_succ {w c : Nat} {cs : List Nat} (hc : c ∈ tl zLetters) : con (w + 1) (c :: cs) = con (w + ar c) cs := by
  conv => lhs; unfold con
  rw [if_pos hc]
theorem fault_con : ∀ (cs : List Nat) (w i : Nat), fault w i cs = none ↔ con w cs = some 0
  | [], w, i => by
    unfold fault con
    by_cases h : w = 0
    · subst h; simp
    · rw [if_neg h]; simp [h]
  | c :: cs, w, i => by
    unfold fault
    cases w with
    | zero => rw [con_zero]; simp
    | succ u =>
      by_cases h : c ∈ tl zLetters
      · rw [if_neg (by rintro (h1 | h1); omega; exact h1 h), con_succ h, show u + 1 + ar c - 1 = u + ar c by omega]
        exact fault_con cs _ _
      · rw [if_pos (.inr h)]
        unfold con
        rw [if_neg h]
        simp
theorem con_app : ∀ (a b : List Nat) (w : Nat), con w (a ++ b) = (con w a).bind fun v => con v b
  | [], b, w => by rw [con_nil]; rfl
  | c :: a, b, w => by
    cases w with
    | zero => rw [con_zero]; show con 0 (c :: (a ++ b)) = _; rw [con_zero]; rfl
    | succ u =>
      show con (u + 1) (c :: (a ++ b)) = _
      by_cases h : c ∈ tl zLetters
      · rw [con_succ h, con_succ h]; exact con_app a b _
      · unfold con; rw [if_neg h, if_neg h]; rfl
theorem con_some {a b : List Nat} {w v u : Nat} (h : con w a = some v) (h2 : con v b = some u) : con w (a ++ b) = some u := by rw [con_app, h]; exact h2
theorem con_split {a b : List Nat} {w u : Nat} (h : con w (a ++ b) = some u) : ∃ v, con w a = some v ∧ con v b = some u := by
  rw [con_app] at h
  cases e : con w a with
  | none => rw [e] at h; cases h
  | some v => rw [e] at h; exact ⟨v, rfl, h⟩
theorem con_add : ∀ (a : List Nat) (w v d : Nat), con w a = some v → con (w + d) a = some (v + d)
  | [], w, v, d, h => by rw [con_nil] at h ⊢; cases h; rfl
  | c :: a, w, v, d, h => by
    obtain ⟨u, rfl, hc, h⟩ := con_cons h
    rw [show u + 1 + d = (u + d) + 1 by omega, con_succ hc, show u + d + ar c = u + ar c + d by omega]
    exact con_add a _ _ d h
theorem con_all : ∀ (a : List Nat) (w v : Nat), con w a = some v → ∀ c ∈ a, c ∈ tl zLetters
  | [], _, _, _, c, hc => by cases hc
  | c :: a, w, v, h, d, hd => by
    obtain ⟨u, rfl, hc, h⟩ := con_cons h
    rcases List.mem_cons.mp hd with rfl | hd
    · exact hc
    · exact con_all a _ _ h d hd
theorem skp_zero (cs : List Nat) : skp 0 cs = 0 := by unfold skp; rfl
theorem skp_cons (w c : Nat) (cs : List Nat) : skp (w + 1) (c :: cs) = 1 + skp (w + ar c) cs := by conv => lhs; unfold skp
theorem skp_le : ∀ (cs : List Nat) (w : Nat), skp w cs ≤ cs.length
  | [], w => by cases w <;> simp [skp]
  | c :: cs, 0 => by rw [skp_zero]; omega
  | c :: cs, w + 1 => by rw [skp_cons, List.length_cons]; have := skp_le cs (w + ar c); omega
theorem skp_con : ∀ (cs : List Nat) (w v : Nat), con (w + v) cs = some 0 → con w (cs.take (skp w cs)) = some 0 ∧ con v (cs.drop (skp w cs)) = some 0
  | cs, 0, v, h => by rw [skp_zero]; exact ⟨con_nil 0, by simpa using h⟩
  | [], w + 1, v, h => by rw [con_nil] at h; have := Option.some.inj h; omega
  | c :: cs, w + 1, v, h => by
    rw [show w + 1 + v = (w + v) + 1 by omega] at h
    obtain ⟨u, e, hc, h⟩ := con_cons h
    have : u = w + v := by omega
    subst this
    rw [show w + v + ar c = (w + ar c) + v by omega] at h
    obtain ⟨h1, h2⟩ := skp_con cs _ v h
    rw [skp_cons, show 1 + skp (w + ar c) cs = skp (w + ar c) cs + 1 by omega, List.take_succ_cons, List.drop_succ_cons, con_succ hc]
    exact ⟨h1, h2⟩
theorem skp_of : ∀ (a b : List Nat) (w : Nat), con w a = some 0 → skp w (a ++ b) = a.length
  | [], b, w, h => by rw [con_nil] at h; cases h; rw [skp_zero]; rfl
  | c :: a, b, w, h => by
    obtain ⟨u, rfl, hc, h⟩ := con_cons h
    show skp (u + 1) (c :: (a ++ b)) = _
    rw [skp_cons, skp_of a b _ h, List.length_cons]
    omega
/-- where the subtree at i ends -/
def endo (cs : List Nat) (i : Nat) : Nat := i + skp 1 (cs.drop i)
theorem endo_le {cs : List Nat} {i : Nat} (h : i ≤ cs.length) : endo cs i ≤ cs.length := by
  unfold endo
  have := skp_le (cs.drop i) 1
  rw [List.length_drop] at this
  omega
theorem endo_gt {cs : List Nat} {i : Nat} (h : i < cs.length) : i < endo cs i := by
  unfold endo
  rw [List.drop_eq_getElem_cons h, skp_cons]
  omega
/-- a tree, opened at i -/
theorem tree_at {cs : List Nat} (t : Tree cs) {i : Nat} (h : i < cs.length) : ∃ v, con 1 (cs.take i) = some (v + 1) ∧ con (v + 1) (cs.drop i) = some 0 := by
  have : Tree (cs.take i ++ cs.drop i) := by rw [List.take_append_drop]; exact t
  obtain ⟨v, h1, h2⟩ := con_split this
  cases v with
  | zero =>
    rw [List.drop_eq_getElem_cons h, con_zero] at h2
    cases h2
  | succ v => exact ⟨v, h1, h2⟩
/-- the subtree at i -/
def sub (cs : List Nat) (i : Nat) : List Nat := (cs.drop i).take (skp 1 (cs.drop i))
theorem sub_parts {cs : List Nat} (t : Tree cs) {i : Nat} (h : i < cs.length) : Tree (sub cs i) ∧ ∃ v, con 1 (cs.take i) = some (v + 1) ∧ con v (cs.drop (endo cs i)) = some 0 := by
  obtain ⟨v, h1, h2⟩ := tree_at t h
  rw [show v + 1 = 1 + v by omega] at h2
  obtain ⟨h3, h4⟩ := skp_con _ _ _ h2
  exact ⟨h3, v, h1, by rw [List.drop_drop] at h4; exact h4⟩
theorem sub_len (cs : List Nat) (i : Nat) : i + (sub cs i).length = endo cs i := by
  unfold sub endo
  rw [List.length_take, Nat.min_eq_left (skp_le _ _)]
theorem sub_back (cs : List Nat) (i : Nat) : cs.take i ++ sub cs i ++ cs.drop (endo cs i) = cs := by
  unfold sub endo
  rw [List.append_assoc, ← List.drop_drop, List.take_append_drop, List.take_append_drop]
/-- another tree in place of the subtree at i -/
def rep (cs : List Nat) (i : Nat) (us : List Nat) : List Nat := cs.take i ++ us ++ cs.drop (endo cs i)
theorem rep_tree {cs us : List Nat} (t : Tree cs) {i : Nat} (h : i < cs.length) (hu : Tree us) : Tree (rep cs i us) := by
  obtain ⟨_, v, h1, h2⟩ := sub_parts t h
  have := con_add us 1 0 v hu
  rw [show 1 + v = v + 1 by omega, show 0 + v = v by omega] at this
  exact con_some (con_some h1 this) h2
theorem rep_sub (cs : List Nat) (i : Nat) : rep cs i (sub cs i) = cs := sub_back cs i
theorem rep_at {cs us : List Nat} (t : Tree cs) {i : Nat} (h : i < cs.length) (hu : Tree us) : sub (rep cs i us) i = us := by
  have e : (rep cs i us).drop i = us ++ cs.drop (endo cs i) := by
    unfold rep
    rw [List.append_assoc, List.drop_append_of_le_length (by rw [List.length_take]; omega), List.drop_eq_nil_of_le (by rw [List.length_take]; omega)]
    rfl
  unfold sub
  rw [e, skp_of us _ 1 hu, List.take_left]
theorem rep_gt {cs us : List Nat} {i : Nat} (h : i < cs.length) (hu : us ≠ []) : i < (rep cs i us).length := by
  unfold rep
  rw [List.length_append, List.length_append, List.length_take]
  have := List.length_pos_iff.mpr hu
  omega
theorem tree_ne {cs : List Nat} (t : Tree cs) : cs ≠ [] := by rintro rfl; rw [Tree, con_nil] at t; cases t
/-- n subtrees from i on -/
def kids (cs : List Nat) : Nat → Nat → List Nat
  | 0, _ => []
  | n + 1, i => i :: kids cs n (endo cs i)
def after (cs : List Nat) : Nat → Nat → Nat
  | 0, i => i
  | n + 1, i => after cs n (endo cs i)
theorem after_skp {cs : List Nat} : ∀ (n i v : Nat), con (n + v) (cs.drop i) = some 0 → after cs n i = i + skp n (cs.drop i) ∧ con v (cs.drop (after cs n i)) = some 0
  | 0, i, v, h => by unfold after; rw [skp_zero]; exact ⟨rfl, by simpa using h⟩
  | n + 1, i, v, h => by
    have h' : con (1 + (n + v)) (cs.drop i) = some 0 := by rw [← h]; congr 1; omega
    obtain ⟨h1, h2⟩ := skp_con _ _ _ h'
    rw [List.drop_drop] at h2
    obtain ⟨h3, h4⟩ := after_skp n (endo cs i) v h2
    unfold after
    refine ⟨?_, h4⟩
    rw [h3]
    have hn : con 1 (cs.drop i) ≠ none ∨ True := .inr trivial
    have e : skp (n + 1) (cs.drop i) = skp 1 (cs.drop i) + skp n (cs.drop (endo cs i)) := by
      have hs : (cs.drop i) = (cs.drop i).take (skp 1 (cs.drop i)) ++ (cs.drop i).drop (skp 1 (cs.drop i)) := (List.take_append_drop _ _).symm
      have key : ∀ (a b : List Nat) (w : Nat), con w a = some 0 → skp (n + w) (a ++ b) = a.length + skp n b := by
        intro a
        induction a with
        | nil => intro b w hw; rw [con_nil] at hw; cases hw; simp
        | cons c a ih =>
          intro b w hw
          obtain ⟨u, rfl, hc, hw⟩ := con_cons hw
          show skp (n + (u + 1)) (c :: (a ++ b)) = _
          rw [show n + (u + 1) = (n + u) + 1 by omega, skp_cons, show n + u + ar c = n + (u + ar c) by omega, ih b _ hw, List.length_cons]
          omega
      have := key _ ((cs.drop i).drop (skp 1 (cs.drop i))) 1 h1
      rw [List.take_append_drop, List.length_take, Nat.min_eq_left (skp_le _ _), List.drop_drop] at this
      exact this
    rw [e]
    unfold endo
    omega
theorem kids_join {cs : List Nat} : ∀ (n i : Nat), con n (cs.drop i) = some 0 → ((kids cs n i).map (sub cs)).flatten = cs.drop i
  | 0, i, h => by
    unfold kids
    cases e : cs.drop i with
    | nil => rfl
    | cons c r => rw [e, con_zero] at h; cases h
  | n + 1, i, h => by
    have h' : con (1 + n) (cs.drop i) = some 0 := by rw [← h]; congr 1; omega
    obtain ⟨h1, h2⟩ := skp_con _ _ _ h'
    rw [List.drop_drop] at h2
    have ih := kids_join n (endo cs i) h2
    unfold kids
    rw [List.map_cons, List.flatten_cons, ih]
    unfold sub endo
    rw [← List.drop_drop, List.take_append_drop]
theorem kids_lt {cs : List Nat} : ∀ (n i : Nat), con n (cs.drop i) = some 0 → ∀ p ∈ kids cs n i, p < cs.length
  | 0, i, h, p, hp => by unfold kids at hp; cases hp
  | n + 1, i, h, p, hp => by
    have h' : con (1 + n) (cs.drop i) = some 0 := by rw [← h]; congr 1; omega
    obtain ⟨h1, h2⟩ := skp_con _ _ _ h'
    rw [List.drop_drop] at h2
    unfold kids at hp
    rcases List.mem_cons.mp hp with rfl | hp
    · by_cases hl : p < cs.length
      · exact hl
      · rw [List.drop_eq_nil_of_le (by omega), con_nil] at h; cases h
    · exact kids_lt n _ h2 p hp
/-! the open nodes: a stack of (place, children not done) -/
def wt : List (Nat × Nat) → Nat
  | [] => 0
  | [(_, r)] => r
  | (_, r) :: s => r - 1 + wt s
def okS (cs : List Nat) (pos : Nat) : List (Nat × Nat) → Prop
  | [] => True
  | x :: s => endo cs x.1 = pos + skp (wt (x :: s)) (cs.drop pos) ∧ okS cs pos s
theorem wt_cons {x y : Nat × Nat} {s : List (Nat × Nat)} : wt (x :: y :: s) = x.2 - 1 + wt (y :: s) := rfl
theorem wt_push : ∀ (s : List (Nat × Nat)) (i a : Nat), s ≠ [] → (∀ x ∈ s, 1 ≤ x.2) → wt (s ++ [(i, a)]) = wt s - 1 + a ∧ 1 ≤ wt s
  | [x], i, a, _, h => by
    have := h x (by simp)
    refine ⟨?_, this⟩
    rfl
  | x :: y :: s, i, a, _, h => by
    obtain ⟨h1, h2⟩ := wt_push (y :: s) i a (by simp) fun z hz => h z (List.mem_cons_of_mem _ hz)
    have := h x (by simp)
    refine ⟨?_, by rw [wt_cons]; omega⟩
    show x.2 - 1 + wt (y :: s ++ [(i, a)]) = _
    rw [h1, wt_cons]
    omega
theorem ok_push {cs : List Nat} {i : Nat} (hi : i < cs.length) : ∀ (s : List (Nat × Nat)), (∀ x ∈ s, 1 ≤ x.2) → okS cs i s → okS cs (i + 1) (s ++ [(i, ar cs[i])])
  | [], _, _ => ⟨by
    show endo cs i = i + 1 + skp (ar cs[i]) (cs.drop (i + 1))
    unfold endo
    rw [List.drop_eq_getElem_cons hi, skp_cons, Nat.zero_add]
    omega, trivial⟩
  | x :: s, h, ⟨h1, h2⟩ => by
    refine ⟨?_, ok_push hi s (fun z hz => h z (List.mem_cons_of_mem _ hz)) h2⟩
    obtain ⟨w1, w2⟩ := wt_push (x :: s) i (ar cs[i]) (by simp) h
    show endo cs x.1 = i + 1 + skp (wt (x :: s ++ [(i, ar cs[i])])) _
    rw [w1, h1, List.drop_eq_getElem_cons hi]
    obtain ⟨u, hu⟩ : ∃ u, wt (x :: s) = u + 1 := ⟨wt (x :: s) - 1, by omega⟩
    rw [hu, skp_cons]
    show _ = i + 1 + skp (u + 1 - 1 + ar cs[i]) _
    rw [show u + 1 - 1 + ar cs[i] = u + ar cs[i] by omega]
    omega
/-- the top is done: it goes, and the one below has one less -/
theorem wt_pop : ∀ (s : List (Nat × Nat)) (p r i : Nat), wt (s ++ [(p, r), (i, 0)]) = wt (s ++ [(p, r - 1)])
  | [], p, r, i => by show r - 1 + 0 = r - 1; rfl
  | [x], p, r, i => by
    show x.2 - 1 + wt ([] ++ [(p, r), (i, 0)]) = x.2 - 1 + wt ([] ++ [(p, r - 1)])
    rw [wt_pop [] p r i]
  | x :: y :: s, p, r, i => by
    show x.2 - 1 + wt (y :: s ++ [(p, r), (i, 0)]) = x.2 - 1 + wt (y :: s ++ [(p, r - 1)])
    rw [wt_pop (y :: s) p r i]
theorem ok_pop {cs : List Nat} {pos : Nat} : ∀ (s : List (Nat × Nat)) (p r i : Nat), okS cs pos (s ++ [(p, r), (i, 0)]) → okS cs pos (s ++ [(p, r - 1)]) ∧ endo cs i = pos
  | [], p, r, i, ⟨h1, h2, _⟩ => by
    refine ⟨⟨?_, trivial⟩, ?_⟩
    · rw [show endo cs (p, r - 1).1 = endo cs p from rfl, show endo cs p = _ from h1]
      rfl
    · rw [show endo cs i = _ from h2]
      show pos + skp 0 _ = pos
      rw [skp_zero]; rfl
  | x :: s, p, r, i, ⟨h1, h2⟩ => by
    obtain ⟨h3, h4⟩ := ok_pop s p r i h2
    refine ⟨⟨?_, h3⟩, h4⟩
    show endo cs x.1 = pos + skp (wt (x :: s ++ [(p, r - 1)])) _
    rw [← wt_pop (x :: s) p r i]
    exact h1
theorem ok_last {cs : List Nat} {pos i : Nat} (h : okS cs pos [(i, 0)]) : endo cs i = pos := by
  rw [show endo cs i = _ from h.1]
  show pos + skp 0 _ = pos
  rw [skp_zero]; rfl
theorem wt_pos : ∀ (s : List (Nat × Nat)), s ≠ [] → (∀ x ∈ s, 1 ≤ x.2) → 1 ≤ wt s
  | [x], _, h => h x (by simp)
  | x :: y :: s, _, h => by rw [wt_cons]; have := wt_pos (y :: s) (by simp) fun z hz => h z (List.mem_cons_of_mem _ hz); omega
theorem ok_open {cs : List Nat} {pos : Nat} (hp : pos < cs.length) : ∀ (s : List (Nat × Nat)), (∀ x ∈ s, 1 ≤ x.2) → okS cs pos s → ∀ x ∈ s, pos < endo cs x.1
  | [], _, _, x, hx => by cases hx
  | y :: s, h, ⟨h1, h2⟩, x, hx => by
    rcases List.mem_cons.mp hx with rfl | hx
    · rw [h1]
      have := wt_pos (x :: s) (by simp) h
      obtain ⟨u, hu⟩ : ∃ u, wt (x :: s) = u + 1 := ⟨wt (x :: s) - 1, by omega⟩
      rw [hu, List.drop_eq_getElem_cons hp, skp_cons]
      omega
    · exact ok_open hp s (fun z hz => h z (List.mem_cons_of_mem _ hz)) h2 x hx
def opn (cs : List Nat) (i : Nat) : List Nat := (List.range i).filter fun p => decide (i < endo cs p)
theorem opn_succ (cs : List Nat) (i : Nat) : opn cs (i + 1) = (opn cs i ++ [i]).filter fun p => decide (i + 1 < endo cs p) := by
  unfold opn
  rw [List.range_succ, List.filter_append, List.filter_append, List.filter_filter]
  congr 1
  refine List.filter_congr fun p _ => ?_
  by_cases h : i + 1 < endo cs p
  · rw [decide_eq_true h, decide_eq_true (show i < endo cs p by omega)]; rfl
  · rw [decide_eq_false h]; rfl

/-! the errors' classes, made -/
/-- fields of an error with one value -/
def fs1 (tag fld : Str) (y : V) : List (Str × V) := [("tag", .str tag), (fld, y)]
/-- how an error with one value leaves -/
def Out (E : XK) (H : Hp) (CA : Addr) (tag fld : Str) (v : V) : Prop := ∀ d H', Ex H H' → H' d = some (.xd (fs1 tag fld v)) → E (.ref CA) (some d) H'
def spExc (CA : Addr) (tag fld : Str) : Sp := fun vs H Q _ => ∃ a y, vs = [.ref a, y] ∧ H a = some (exo a CA none) ∧ ∀ dx, H dx = none → dx ≠ a → Q .non (upd (upd H dx (exd dx (fs1 tag fld y))) a (exo a CA (some dx)))
theorem exc_body {X : Cx} {σ : St} {H : Hp} {Q : VK} {CA a : Addr} {y : V} {fld tag : Str} {p1 p2 p3 p4 p5 p6 p7 p8 : Pos} {j : Nat} (T : OexC X.K CA) (m1 : Nm X "self" 0) (m2 : Nm X fld 1) (n1 : PySem.W.findIn X.K (.ref CA) fld = some none) (n2 : PySem.W.findIn X.K (.ref CA) "tag" = some none)
    (ha : H a = some (exo a CA none)) (h0 : σ[0]? = some (some (.ref a))) (h1 : σ[1]? = some (some y)) (hq : ∀ dx, H dx = none → dx ≠ a → Q .non (upd (upd H dx (exd dx (fs1 tag fld y))) a (exo a CA (some dx))))
    (d1 : (fld == ("__debug__" : Str)) = false := by decide) (d2 : (fld == ("__classdict__" : Str)) = false := by decide) :
    zB X [.Assign [.Attribute (.Name "self" p1) fld p2] (.Name fld p3) p4, .Assign [.Attribute (.Name "self" p5) "tag" p6] (.Constant (.str tag) j p7) p8] (fun _ H' => Q .non H') Q (fun _ _ => False) (fun _ _ => False) σ H := by
  refine b_cons (s_ost (e_name m2 h1 (e_name m1 h0 ⟨a, CA, rfl, T, n1, .inl ⟨ha, fun dx hd hda => ?_⟩⟩) d1 d2))
  refine b_cons (s_ost (e_str (e_name m1 h0 ⟨a, CA, rfl, T, n2, .inr ⟨dx, [(fld, y)], upd_same, by rw [upd_ne hda, upd_same], by show 1 ≤ 900; decide, ?_⟩⟩)))
  refine b_nil ?_
  have e1 : upd (upd (upd H dx (exd dx [(fld, y)])) a (exo a CA (some dx))) dx (exd dx [("tag", .str tag), (fld, y)]) = upd (upd H dx (exd dx (fs1 tag fld y))) a (exo a CA (some dx)) := by
    funext b
    by_cases hb : b = dx
    · subst hb; rw [upd_same, upd_ne hda, upd_same]; rfl
    · rw [upd_ne hb]
      by_cases hba : b = a
      · subst hba; rw [upd_same, upd_same]
      · rw [upd_ne hba, upd_ne hba, upd_ne hb, upd_ne hb]
  rw [e1]
  exact hq dx hd hda
abbrev e_InvalidTree : Stmt := inClass (topS 3) 0
theorem ok_InvalidTree {P : Program} {w : World} {K : PySem.W.Frag} {mg : Str → Option Value} {base : Heap} {CA f cc cda : Addr} {fd : FuncData} (T : ExI P K CA f cc cda "__init__" "InvalidTree.__init__" (defArgs e_InvalidTree) (defBody e_InvalidTree) (defScope e_InvalidTree) fd) (mS : mg "super" = none)
    (n1 : PySem.W.findIn K (.ref CA) "index" = some none) (n2 : PySem.W.findIn K (.ref CA) "tag" = some none) : FnOk P w K mg base CX0 1 f fd ["self", "index"] (spExc CA "InvalidTree" "index") := by
  refine init_ok (N := ["self", "index", "__class__"]) (k := 0) (txt := "a string is not a tree") T (NdefX.nscope_by (by decide +kernel)) mS (by rfl) (fun _ => rfl) (by decide +kernel) (by rfl) (by rfl) (fun vs H Q E ⟨a, y, h, _⟩ => by rw [h]; rfl) (fun vs H Q E ⟨a, y, h, ha, _⟩ => ⟨a, [y], h, ha⟩) ?_
  rintro X vs H Q E C ⟨a, y, rfl, ha, hq⟩
  have m1 : Nm X "self" 0 := C.nm rfl (by decide +kernel)
  have m2 : Nm X "index" 1 := C.nm rfl (by decide +kernel)
  exact exc_body (by rw [C.frg]; exact T.ox) m1 m2 (by rw [C.frg]; exact n1) (by rw [C.frg]; exact n2) ha rfl rfl hq


/-! check_tree -/
abbrev s_check_tree : Stmt := topS 34
abbrev N_check_tree : List Str := ["text", "index"]
abbrev P_check_tree : List Str := ["text"]
theorem sc_check_tree : FnScope N_check_tree P_check_tree (defScope s_check_tree) := ⟨rfl, rfl, rfl, by decide +kernel, rfl, by decide +kernel, by decide +kernel⟩

/-- a text is a tree, or its first fault is told by an error -/
def spCheck (CA : Addr) : Sp := fun vs H Q E => ∃ z : Str, vs = [.str z] ∧ z.length ≤ 100000 ∧ (fault 1 0 (tl z) = none → ∀ H', Ex H H' → Q .non H') ∧
  ∀ i, fault 1 0 (tl z) = some i → ∀ d H', Ex H H' → H' d = some (.xd (fs1 "InvalidTree" "index" (.int i))) → E (.ref CA) (some d) H'
theorem spCheck_tree {CA : Addr} {z : Str} {H : Hp} {Q : VK} {E : XK} (t : Tree (tl z)) (hz : z.length ≤ 100000) (h : ∀ H', Ex H H' → Q .non H') : spCheck CA [.str z] H Q E :=
  ⟨z, rfl, hz, fun _ => h, fun i hi => by rw [(fault_con (tl z) 1 0).mpr t] at hi; cases hi⟩
section
variable {P : Program} {w : World} {K : PySem.W.Frag} {mg : Str → Option Value} {base : Heap}
theorem ok_check_tree {CA : Addr} {f : Addr} {fd : FuncData} (F : FnP K "check_tree" s_check_tree f fd) (xT : ExK P w K mg base "InvalidTree" CA (fs1 "InvalidTree" "index")) (cF : Cal P w K mg base CX0 "first_fault" 2 1 spFault) : FnOk P w K mg base (L2.CX P w) 3 f fd P_check_tree (spCheck CA) := by
  refine fn_okR F sc_check_tree (fun vs H Q E ⟨c, h, _⟩ => by rw [h]; rfl) fun X vs H Q E C hfn tk hcd hql ⟨z, hv, hz, hq, hx⟩ => ?_
  subst hv
  have n_text : Nm X "text" 0 := C.nm rfl (by decide +kernel)
  have n_index : Nm X "index" 1 := C.nm rfl (by decide +kernel)
  have w_index : Ns X "index" 1 := C.ns rfl (by decide +kernel) (.inl (hfn _))
  refine b_cons ?_
  kpc_turns
  refine ⟨z, rfl, hz, fun H1 e1 => ?_⟩
  kpc_turns
  refine if_nd (fun hf => ?_) fun hf => ?_
  · cases e : fault 1 0 (tl z) with
    | none => rw [e] at hf; exact (hf rfl).elim
    | some i =>
      refine b_cons (s_raise C xT tk (by decide) ?_)
      kpc_turns
      exact fun d hd => hx i e d _ (e1.trans (Evl.Ex.new hd)) upd_same
  · cases e : fault 1 0 (tl z) with
    | none =>
      kpc_turns
      exact hq e _ e1
    | some i => rw [e] at hf; cases hf
end

/-! check_index, end_of, child_indexes, children, subtree, replaced -/
abbrev s_check_index : Stmt := topS 35
abbrev N_check_index : List Str := ["tree", "index"]
abbrev P_check_index : List Str := ["tree", "index"]
theorem sc_check_index : FnScope N_check_index P_check_index (defScope s_check_index) := ⟨rfl, rfl, rfl, by decide +kernel, rfl, by decide +kernel, by decide +kernel⟩
abbrev s_end_of : Stmt := topS 36
abbrev N_end_of : List Str := ["tree", "index", "wanted", "at"]
abbrev P_end_of : List Str := ["tree", "index"]
theorem sc_end_of : FnScope N_end_of P_end_of (defScope s_end_of) := ⟨rfl, rfl, rfl, by decide +kernel, rfl, by decide +kernel, by decide +kernel⟩
abbrev s_child_indexes : Stmt := topS 37
abbrev N_child_indexes : List Str := ["tree", "index", "found", "at", "k"]
abbrev P_child_indexes : List Str := ["tree", "index"]
theorem sc_child_indexes : FnScope N_child_indexes P_child_indexes (defScope s_child_indexes) := ⟨rfl, rfl, rfl, by decide +kernel, rfl, by decide +kernel, by decide +kernel⟩
abbrev s_children : Stmt := topS 38
abbrev N_children : List Str := ["tree", "at"]
abbrev P_children : List Str := ["tree"]
theorem sc_children : FnScope N_children P_children (defScope s_children) := ⟨rfl, rfl, rfl, by decide +kernel, rfl, by decide +kernel, by decide +kernel⟩
abbrev s_subtree : Stmt := topS 39
abbrev N_subtree : List Str := ["tree", "index"]
abbrev P_subtree : List Str := ["tree", "index"]
theorem sc_subtree : FnScope N_subtree P_subtree (defScope s_subtree) := ⟨rfl, rfl, rfl, by decide +kernel, rfl, by decide +kernel, by decide +kernel⟩
abbrev s_replaced : Stmt := topS 40
abbrev N_replaced : List Str := ["tree", "index", "other"]
abbrev P_replaced : List Str := ["tree", "index", "other"]
theorem sc_replaced : FnScope N_replaced P_replaced (defScope s_replaced) := ⟨rfl, rfl, rfl, by decide +kernel, rfl, by decide +kernel, by decide +kernel⟩

theorem strl (z : Str) : z.length = (tl z).length := len_tl z
theorem kids_len (cs : List Nat) : ∀ (n i : Nat), (kids cs n i).length = n
  | 0, _ => rfl
  | n + 1, i => by unfold kids; rw [List.length_cons, kids_len cs n]
theorem after_snoc (cs : List Nat) : ∀ (n i : Nat), after cs (n + 1) i = endo cs (after cs n i)
  | 0, _ => rfl
  | n + 1, i => by
    show after cs (n + 1) (endo cs i) = _
    rw [after_snoc cs n]
    rfl
theorem kids_snoc (cs : List Nat) : ∀ (n i : Nat), kids cs (n + 1) i = kids cs n i ++ [after cs n i]
  | 0, _ => rfl
  | n + 1, i => by
    show i :: kids cs (n + 1) (endo cs i) = _
    rw [kids_snoc cs n]
    rfl
def spIndex (CA : Addr) : Sp := fun vs H Q E => ∃ (z : Str) (i : Int), vs = [.str z, .int i] ∧ z.length ≤ 100000 ∧ (0 ≤ i ∧ i < z.length → Q .non H) ∧ (¬ (0 ≤ i ∧ i < z.length) → ∀ d H', Ex H H' → H' d = some (.xd (fs1 "InvalidNumber" "given" (.int i))) → E (.ref CA) (some d) H')
/-- a place within a tree from which a subtree is read -/
def spEnd : Sp := fun vs H Q _ => ∃ (z : Str) (i v : Nat), vs = [.str z, .int i] ∧ z.length ≤ 100000 ∧ i ≤ (tl z).length ∧ con (1 + v) ((tl z).drop i) = some 0 ∧ Q (.int (endo (tl z) i)) H
def spKidIx : Sp := fun vs H Q _ => ∃ (z : Str) (i : Nat) (c : Nat), vs = [.str z, .int i] ∧ z.length ≤ 100000 ∧ Tree (tl z) ∧ (tl z)[i]? = some c ∧ ∀ p H', H p = none → Ex H H' → H' p = some (.lst ((kids (tl z) (ar c) (i + 1)).map fun (n : Nat) => V.int n)) → Q (.ref p) H'
section
variable {P : Program} {w : World} {K : PySem.W.Frag} {mg : Str → Option Value} {base : Heap}
theorem ok_check_index {CA : Addr} {f : Addr} {fd : FuncData} (F : FnP K "check_index" s_check_index f fd) (mL : mg "len" = none) (xN : ExK P w K mg base "InvalidNumber" CA (fs1 "InvalidNumber" "given")) : FnOk P w K mg base (L2.CX P w) 3 f fd P_check_index (spIndex CA) := by
  refine fn_okR F sc_check_index (fun vs H Q E ⟨z, i, h, _⟩ => by rw [h]; rfl) fun X vs H Q E C hfn tk hcd hql ⟨z, i, hv, hz, hq, hx⟩ => ?_
  subst hv
  have n_tree : Nm X "tree" 0 := C.nm rfl (by decide +kernel)
  have n_index : Nm X "index" 1 := C.nm rfl (by decide +kernel)
  refine b_cons ?_
  kpc_turns
  have bad : ¬ (0 ≤ i ∧ i < z.length) → ∀ {nx bk ct : St → Hp → Prop} {rt : VK} {p p1 p2 p3}, zS X (.Raise (some (.Call (.Name "InvalidNumber" p) [.Name "index" p1] [] p2)) none p3) nx rt bk ct (start N_check_index [.str z, .int i]) H := fun hb {nx bk ct rt p p1 p2 p3} => by
    refine s_raise C xN tk (by decide) ?_
    kpc_turns
    exact fun d hd => hx hb d _ (Evl.Ex.new hd) upd_same
  refine if_d (fun h0 => ?_) fun h0 => ?_
  · kpc_turns
    refine c_lenS (sz_le hz) ?_
    kpc_turns
    refine ⟨_, rfl, ?_⟩
    refine if_nd (fun h1 => ?_) fun h1 => ?_
    · kpc_turns
      exact bad fun h => h1 h.2
    · kpc_turns
      exact hq ⟨h0, h1⟩
  · kpc_turns
    exact bad fun h => h0 h.1
theorem ok_end_of {f : Addr} {fd : FuncData} (F : FnP K "end_of" s_end_of f fd) (cA : Cal P w K mg base CX0 "arity" 1 1 spArity) : FnOk P w K mg base CX0 2 f fd P_end_of spEnd := by
  refine fn_ok F sc_end_of (fun vs H Q E ⟨z, i, _, h, _⟩ => by rw [h]; rfl) fun X vs H Q E C hfn ⟨z, i, v, hv, hz, hi, hcon, hq⟩ => ?_
  subst hv
  have n_tree : Nm X "tree" 0 := C.nm rfl (by decide +kernel)
  have n_index : Nm X "index" 1 := C.nm rfl (by decide +kernel)
  have n_wanted : Nm X "wanted" 2 := C.nm rfl (by decide +kernel)
  have n_at : Nm X "at" 3 := C.nm rfl (by decide +kernel)
  have w_wanted : Ns X "wanted" 2 := C.ns rfl (by decide +kernel) (.inl (hfn _))
  have w_at : Ns X "at" 3 := C.ns rfl (by decide +kernel) (.inl (hfn _))
  refine b_cons ?_
  kpc_turns
  refine s_while C (fun m σ H' => ∃ wd a : Nat, σ = [some (.str z), some (.int i), some (.int wd), some (.int a)] ∧ H' = H ∧ con (wd + v) ((tl z).drop a) = some 0 ∧ endo (tl z) i = a + skp wd ((tl z).drop a) ∧ a ≤ (tl z).length ∧ m = (tl z).length - a) ((tl z).length - i) ⟨1, i, rfl, rfl, hcon, rfl, hi, rfl⟩ ?_
  rintro m σ H1 ⟨wd, a, rfl, rfl, hc, he, ha, rfl⟩
  kpc_turns
  refine if_d (fun h0 => ?_) fun h0 => ?_
  · obtain ⟨u, rfl⟩ : ∃ u, wd = u + 1 := ⟨wd - 1, by omega⟩
    have hlt : a < (tl z).length := by
      by_cases h : a < (tl z).length
      · exact h
      · rw [List.drop_eq_nil_of_le (by omega), con_nil] at hc
        have := Option.some.inj hc
        omega
    obtain ⟨c, hcc⟩ : ∃ c, (tl z)[a] = c := ⟨_, rfl⟩
    rw [List.drop_eq_getElem_cons hlt, hcc] at hc he
    rw [show u + 1 + v = (u + v) + 1 by omega] at hc
    obtain ⟨u2, e2, hcl, hc2⟩ := con_cons hc
    have : u2 = u + v := by omega
    subst this
    rw [skp_cons] at he
    kpc_turns
    refine x_s (c := c) (sz_le hz) (at_ok (by omega) (by simpa [List.getElem?_eq_getElem hlt] using hcc)) ?_
    kpc_turns
    refine ⟨c, rfl, ?_⟩
    kpc_turns
    refine ⟨(tl z).length - (a + 1), by omega, u + ar c, a + 1, ?_, rfl, by rw [← hc2]; congr 1; omega, by rw [he]; omega, hlt, rfl⟩
    have e1 : (((u + 1 : Nat) : Int) + ((ar c : Int) - 1)) = ((u + ar c : Nat) : Int) := by omega
    rw [e1]
    rfl
  · kpc_turns
    have : wd = 0 := by omega
    subst this
    rw [skp_zero] at he
    rw [he] at hq
    exact hq
theorem ok_child_indexes {f : Addr} {fd : FuncData} (F : FnP K "child_indexes" s_child_indexes f fd) (mR : mg "range" = none) (cA : Cal P w K mg base CX0 "arity" 1 1 spArity) (cE : Cal P w K mg base CX0 "end_of" 2 2 spEnd) : FnOk P w K mg base CX0 3 f fd P_child_indexes spKidIx := by
  refine fn_ok F sc_child_indexes (fun vs H Q E ⟨z, i, _, h, _⟩ => by rw [h]; rfl) fun X vs H Q E C hfn ⟨z, i, c, hv, hz, ht, hc, hq⟩ => ?_
  subst hv
  have n_tree : Nm X "tree" 0 := C.nm rfl (by decide +kernel)
  have n_index : Nm X "index" 1 := C.nm rfl (by decide +kernel)
  have n_found : Nm X "found" 2 := C.nm rfl (by decide +kernel)
  have n_at : Nm X "at" 3 := C.nm rfl (by decide +kernel)
  have n_k : Nm X "k" 4 := C.nm rfl (by decide +kernel)
  have w_found : Ns X "found" 2 := C.ns rfl (by decide +kernel) (.inl (hfn _))
  have w_at : Ns X "at" 3 := C.ns rfl (by decide +kernel) (.inl (hfn _))
  have w_k : Ns X "k" 4 := C.ns rfl (by decide +kernel) (.inl (hfn _))
  refine b_cons ?_
  kpc_turns
  refine n_lst (a_nil ⟨by show 0 ≤ sizeLine; decide, fun l H1 nl e1 hl => ?_⟩)
  kpc_turns
  have hi : i < (tl z).length := (List.getElem?_eq_some_iff.mp hc).1
  obtain ⟨v, hp1, hp2⟩ := tree_at ht hi
  have hcc : (tl z)[i] = c := (List.getElem?_eq_some_iff.mp hc).2
  rw [List.drop_eq_getElem_cons hi, hcc] at hp2
  obtain ⟨u, e, hcl, hp3⟩ := con_cons hp2
  have : u = v := by omega
  subst this
  refine s_for C (i_range1 (C.gl (by decide +kernel)) (by rw [C.mgl]; exact mR) ?_)
  kpc_turns
  refine x_s (c := c) (sz_le hz) (at_ok (by omega) (by simpa using hc)) ?_
  kpc_turns
  refine ⟨c, rfl, ?_⟩
  have har : ar c ≤ 2 := by unfold ar; split <;> (try split) <;> omega
  refine ⟨_, rfl, by omega, by omega, _, _, _, fun k σ H' => ∃ (a : Nat) (o : Option V), σ = [some (.str z), some (.int i), some (.ref l), some (.int a), o] ∧ Ex H H' ∧ H' l = some (.lst ((kids (tl z) k (i + 1)).map fun (n : Nat) => V.int n)) ∧ a = after (tl z) k (i + 1) ∧ con (ar c - k + u) ((tl z).drop a) = some 0 ∧ a ≤ (tl z).length, walk_range 0 _, ⟨i + 1, none, ?_, e1, hl, rfl, by rw [Nat.sub_zero, Nat.add_comm]; exact hp3, hi⟩, fun _ _ _ _ _ => trivial, ?_, ?_⟩
  · rfl
  · rintro k x σ H2 H3 hk ⟨a, o, rfl, e2, hl2, ha, hcn, hle⟩ e3 rfl
    have hk : k < ar c := by omega
    kpc_turns
    refine ⟨l, _, rfl, e3 _ _ hl2, ?_⟩
    kpc_turns
    refine ⟨_, e3 _ _ hl2, small_lt (by rw [List.length_map, kids_len]; omega), fun H4 x4 hl4 => ?_⟩
    kpc_turns
    rw [show ar c - k + u = 1 + (ar c - (k + 1) + u) by omega] at hcn
    obtain ⟨h1, h2⟩ := skp_con _ _ _ hcn
    rw [List.drop_drop] at h2
    refine ⟨z, a, _, rfl, hz, hle, hcn, ?_⟩
    kpc_turns
    refine ⟨endo (tl z) a, _, rfl, Xb.ex (e2.trans e3) nl x4, ?_, by rw [ha, after_snoc], h2, endo_le hle⟩
    rw [kids_snoc, List.map_append, ← ha]
    exact hl4
  · rintro σ H2 ⟨a, o, rfl, e2, hl2, ha, hcn, hle⟩
    kpc_turns
    refine hq l H2 nl e2 ?_
    rw [hl2]
    have : (0 : Int) + (ar c : Int) = ar c := by omega
    congr
end

/-! lists by place -/
theorem getElem?_mapV {α : Type} {xs : List α} {f : α → V} {i : Nat} {v : V} (h : (xs.map f)[i]? = some v) : ∃ x, xs[i]? = some x ∧ v = f x := by
  rw [List.getElem?_map] at h
  cases e : xs[i]? with
  | none => rw [e] at h; cases h
  | some x => rw [e] at h; exact ⟨x, rfl, (Option.some.inj h).symm⟩
theorem map_range_get {α β : Type} (xs : List α) (d : α) (f : α → β) : (List.range xs.length).map (fun i => f (xs.getD i d)) = xs.map f := by
  apply List.ext_getElem
  · simp
  · intro i h1 h2
    simp at h1
    simp [List.getD, h1]
theorem getD_of {α : Type} {xs : List α} {i : Nat} {x d : α} (h : xs[i]? = some x) : xs.getD i d = x := by simp [List.getD, h]

/-! children, subtree, replaced -/
def mkS (l : List Nat) : Str := ⟨l.toArray⟩
theorem tl_mkS (l : List Nat) : tl (mkS l) = l := rfl
theorem str_ext {u v : Str} (h : tl u = tl v) : u = v := by
  cases u with | mk a => cases v with | mk b =>
  have : a = b := Array.toList_inj.mp h
  rw [this]
/-- the text of the subtree at i -/
def subS (z : Str) (i : Nat) : Str := mkS (sub (tl z) i)
theorem cut_sub (z : Str) (i : Nat) (hi : i ≤ (tl z).length) : cutS z (some (i : Int)) (some (endo (tl z) i : Int)) = subS z i := str_ext (by
  rw [cutS_mid z i (endo (tl z) i) (endo_le hi)]
  show _ = sub (tl z) i
  unfold sub endo
  congr 1
  omega)
def spChildren (CT : Addr) : Sp := fun vs H Q E => ∃ z : Str, vs = [.str z] ∧ z.length ≤ 100000 ∧ (∀ i, fault 1 0 (tl z) = some i → Out E H CT "InvalidTree" "index" (.int i)) ∧
  (fault 1 0 (tl z) = none → ∀ c, (tl z)[0]? = some c → ∀ p H', H p = none → Ex H H' → H' p = some (.lst ((kids (tl z) (ar c) 1).map fun i => .str (subS z i))) → Q (.ref p) H')
def spSub (CT CN : Addr) : Sp := fun vs H Q E => ∃ (z : Str) (i : Int), vs = [.str z, .int i] ∧ z.length ≤ 100000 ∧ (∀ j, fault 1 0 (tl z) = some j → Out E H CT "InvalidTree" "index" (.int j)) ∧
  (fault 1 0 (tl z) = none → ¬ (0 ≤ i ∧ i < z.length) → Out E H CN "InvalidNumber" "given" (.int i)) ∧ (fault 1 0 (tl z) = none → ∀ n : Nat, i = n → n < (tl z).length → ∀ H', Ex H H' → Q (.str (subS z n)) H')
def spRep (CT CN : Addr) : Sp := fun vs H Q E => ∃ (z u : Str) (i : Int), vs = [.str z, .int i, .str u] ∧ z.length ≤ 100000 ∧ u.length ≤ 100000 ∧ (∀ j, fault 1 0 (tl z) = some j → Out E H CT "InvalidTree" "index" (.int j)) ∧ (fault 1 0 (tl z) = none → ∀ j, fault 1 0 (tl u) = some j → Out E H CT "InvalidTree" "index" (.int j)) ∧
  (fault 1 0 (tl z) = none → fault 1 0 (tl u) = none → ¬ (0 ≤ i ∧ i < z.length) → Out E H CN "InvalidNumber" "given" (.int i)) ∧ (fault 1 0 (tl z) = none → fault 1 0 (tl u) = none → ∀ n : Nat, i = n → n < (tl z).length → ∀ H', Ex H H' → Q (.str (mkS (rep (tl z) n (tl u)))) H')
section
variable {P : Program} {w : World} {K : PySem.W.Frag} {mg : Str → Option Value} {base : Heap}
theorem ok_subtree {CT CN : Addr} {f : Addr} {fd : FuncData} (F : FnP K "subtree" s_subtree f fd) (cT : Cal P w K mg base (L2.CX P w) "check_tree" 3 1 (spCheck CT)) (cI : Cal P w K mg base (L2.CX P w) "check_index" 3 2 (spIndex CN)) (cE : Cal P w K mg base CX0 "end_of" 2 2 spEnd) :
    FnOk P w K mg base (L2.CX P w) 4 f fd P_subtree (spSub CT CN) := by
  refine fn_okR F sc_subtree (fun vs H Q E ⟨z, i, h, _⟩ => by rw [h]; rfl) fun X vs H Q E C hfn tk hcd hql ⟨z, i, hv, hz, x1, x2, hq⟩ => ?_
  subst hv
  have n_tree : Nm X "tree" 0 := C.nm rfl (by decide +kernel)
  have n_index : Nm X "index" 1 := C.nm rfl (by decide +kernel)
  refine b_cons ?_
  kpc_turns
  refine ⟨z, rfl, hz, fun hf H1 e1 => ?_, fun j hj d H' e hd => x1 j hj d H' e hd⟩
  kpc_turns
  refine ⟨z, i, rfl, hz, fun hi => ?_, fun hi d H' e hd => x2 hf hi d H' (e1.trans e) hd⟩
  have ht : Tree (tl z) := (fault_con _ _ _).mp hf
  rw [strl] at hi
  obtain ⟨n, rfl⟩ : ∃ n : Nat, i = n := ⟨i.toNat, by omega⟩
  have hn : n < (tl z).length := by omega
  obtain ⟨v, hp1, hp2⟩ := tree_at ht hn
  kpc_turns
  refine ⟨z, n, v, rfl, hz, by omega, by rw [Nat.add_comm]; exact hp2, ?_⟩
  kpc_turns
  refine s_sl (sz_le hz) ?_
  rw [cut_sub z n (by omega)]
  exact hq hf n rfl hn _ e1
theorem ok_replaced {CT CN : Addr} {f : Addr} {fd : FuncData} (F : FnP K "replaced" s_replaced f fd) (cT : Cal P w K mg base (L2.CX P w) "check_tree" 3 1 (spCheck CT)) (cI : Cal P w K mg base (L2.CX P w) "check_index" 3 2 (spIndex CN)) (cE : Cal P w K mg base CX0 "end_of" 2 2 spEnd) :
    FnOk P w K mg base (L2.CX P w) 4 f fd P_replaced (spRep CT CN) := by
  refine fn_okR F sc_replaced (fun vs H Q E ⟨z, u, i, h, _⟩ => by rw [h]; rfl) fun X vs H Q E C hfn tk hcd hql ⟨z, u, i, hv, hz, hu, x1, x2, x3, hq⟩ => ?_
  subst hv
  have n_tree : Nm X "tree" 0 := C.nm rfl (by decide +kernel)
  have n_index : Nm X "index" 1 := C.nm rfl (by decide +kernel)
  have n_other : Nm X "other" 2 := C.nm rfl (by decide +kernel)
  refine b_cons ?_
  kpc_turns
  refine ⟨z, rfl, hz, fun hf H1 e1 => ?_, fun j hj d H' e hd => x1 j hj d H' e hd⟩
  kpc_turns
  refine ⟨u, rfl, hu, fun hg H2 e2 => ?_, fun j hj d H' e hd => x2 hf j hj d H' (e1.trans e) hd⟩
  kpc_turns
  refine ⟨z, i, rfl, hz, fun hi => ?_, fun hi d H' e hd => x3 hf hg hi d H' ((e1.trans e2).trans e) hd⟩
  have ht : Tree (tl z) := (fault_con _ _ _).mp hf
  rw [strl] at hi
  obtain ⟨n, rfl⟩ : ∃ n : Nat, i = n := ⟨i.toNat, by omega⟩
  have hn : n < (tl z).length := by omega
  obtain ⟨v, hp1, hp2⟩ := tree_at ht hn
  kpc_turns
  refine s_sl (sz_le hz) ?_
  have l1 : (cutS z none (some (n : Int))).length ≤ z.length := by rw [strl, cutS_take, strl, List.length_take]; omega
  have l2 : (cutS z (some (endo (tl z) n : Int)) none).length ≤ z.length := by rw [strl, cutS_drop, strl, List.length_drop]; omega
  kpc_turns
  refine o_addS (Nat.le_of_lt (Nat.lt_of_le_of_lt (show (cutS z none (some (n : Int))).length + u.length ≤ 200000 by omega) (by decide))) ?_
  kpc_turns
  refine ⟨z, n, v, rfl, hz, by omega, by rw [Nat.add_comm]; exact hp2, ?_⟩
  kpc_turns
  refine s_sl (sz_le hz) ?_
  have l3 : (cutS z none (some (n : Int)) ++ u).length = (cutS z none (some (n : Int))).length + u.length := by rw [strl, tl_app, List.length_append, ← strl, ← strl]
  refine o_addS (Nat.le_of_lt (Nat.lt_of_le_of_lt (show (cutS z none (some (n : Int)) ++ u).length + (cutS z (some (endo (tl z) n : Int)) none).length ≤ 300000 by omega) (by decide))) ?_
  have : cutS z none (some (n : Int)) ++ u ++ cutS z (some (endo (tl z) n : Int)) none = mkS (rep (tl z) n (tl u)) := str_ext (by rw [tl_app, tl_app, cutS_take, cutS_drop]; rfl)
  rw [this]
  exact hq hf hg n rfl hn _ (e1.trans e2)
theorem ok_children {CT : Addr} {f : Addr} {fd : FuncData} (F : FnP K "children" s_children f fd) (cT : Cal P w K mg base (L2.CX P w) "check_tree" 3 1 (spCheck CT)) (cK : Cal P w K mg base CX0 "child_indexes" 3 2 spKidIx) (cE : Cal P w K mg base CX0 "end_of" 2 2 spEnd) :
    FnOk P w K mg base (L2.CX P w) 4 f fd P_children (spChildren CT) := by
  refine fn_okR F sc_children (fun vs H Q E ⟨z, h, _⟩ => by rw [h]; rfl) fun X vs H Q E C hfn tk hcd hql ⟨z, hv, hz, x1, hq⟩ => ?_
  subst hv
  have n_tree : Nm X "tree" 0 := C.nm rfl (by decide +kernel)
  refine b_cons ?_
  kpc_turns
  refine ⟨z, rfl, hz, fun hf H1 e1 => ?_, fun j hj d H' e hd => x1 j hj d H' e hd⟩
  have ht : Tree (tl z) := (fault_con _ _ _).mp hf
  have h0 : 0 < (tl z).length := List.length_pos_iff.mpr (tree_ne ht)
  obtain ⟨c, hc⟩ : ∃ c, (tl z)[0]? = some c := ⟨_, List.getElem?_eq_getElem h0⟩
  have hkids : con (ar c) ((tl z).drop 1) = some 0 := by
    have hcc : (tl z)[0] = c := (List.getElem?_eq_some_iff.mp hc).2
    have h2 : con 1 ((tl z).drop 0) = some 0 := ht
    rw [List.drop_eq_getElem_cons h0, hcc] at h2
    obtain ⟨u, e, _, h3⟩ := con_cons h2
    have : u = 0 := by omega
    subst this
    simpa using h3
  kpc_turns
  refine e_lc (own := [("at", 1)]) C (by decide +kernel) (i_list ?_)
  kpc_turns
  refine ⟨z, 0, c, rfl, hz, ht, hc, fun l H2 nl e2 hl => ⟨l, rfl, ⟨_, SqL.of hl⟩, _, _, _, _, walk_list l _, comp_map (j := 1) C (fun i => .str (subS z ((kids (tl z) (ar c) 1).getD i 0))) (by rw [List.length_map, kids_len]; unfold ar; split <;> (try split) <;> omega) (fun H' e => ex_l e (SqL.of hl)) rfl (by decide +kernel) (fun _ => rfl) ?_, ?_⟩⟩
  · intro i v H' hi e3 hy X1 C1
    obtain ⟨a, ha, rfl⟩ : ∃ a, (kids (tl z) (ar c) 1)[i]? = some a ∧ v = .int (a : Nat) := by
      have hy : ((kids (tl z) (ar c) (0 + 1)).map fun (n : Nat) => V.int n)[i]? = some v := hy
      rw [List.getElem?_map, Option.map_eq_some_iff] at hy
      obtain ⟨a, h1, h2⟩ := hy
      exact ⟨a, h1, h2.symm⟩
    have hlt := kids_lt (ar c) 1 hkids a (List.mem_of_getElem? ha)
    obtain ⟨v2, hp1, hp2⟩ := tree_at ht hlt
    have n_tree : Nm X1 "tree" 0 := C1.nm rfl (by decide +kernel)
    have n_at : Nm X1 "at" 1 := C1.nm rfl (by decide +kernel)
    have w_at : Ns X1 "at" 1 := C1.ns rfl (by decide +kernel) (.inr (by decide +kernel))
    kpc_turns
    refine ⟨z, a, v2, rfl, hz, by omega, by rw [Nat.add_comm]; exact hp2, ?_⟩
    kpc_turns
    refine s_sl (sz_le hz) ?_
    rw [cut_sub z a (by omega)]
    refine ⟨Evl.Ex.refl _, ?_⟩
    simp [List.getD, ha]
  · intro D ys H' nD e3 hD hy
    refine hq hf c hc D H' (by cases e : H D with | none => rfl | some o => exact absurd (e2 _ _ (e1 _ _ e)) (by rw [nD]; simp)) ((e1.trans e2).trans e3) ?_
    rw [hD, hy, List.length_map]
    congr 2
    exact map_range_get (kids (tl z) (ar c) (0 + 1)) 0 fun i => V.str (subS z i)
end

/-! open_nodes -/
abbrev s_open_nodes : Stmt := topS 41
abbrev N_open_nodes : List Str := ["tree", "index", "waiting", "at", "left"]
abbrev P_open_nodes : List Str := ["tree", "index"]
theorem sc_open_nodes : FnScope N_open_nodes P_open_nodes (defScope s_open_nodes) := ⟨rfl, rfl, rfl, by decide +kernel, rfl, by decide +kernel, by decide +kernel⟩

theorem nil_or_app {α : Type} (S : List α) : S = [] ∨ ∃ S' x, S = S' ++ [x] := by
  rcases List.eq_nil_or_concat S with h | ⟨a, b, h⟩
  · exact .inl h
  · exact .inr ⟨a, b, by rw [h, List.concat_eq_append]⟩
/-- the waiting list at W: places of pairs (node, children not done) -/
structure Wt (H0 H : Hp) (W : Addr) (S : List (Addr × Nat × Nat)) : Prop where
  w : H W = some (.lst (S.map fun x => V.ref x.1))
  el : ∀ x ∈ S, H x.1 = some (.lst [.int x.2.1, .int x.2.2])
  nd : (S.map (·.1)).Nodup
  wn : W ∉ S.map (·.1)
  newW : H0 W = none
  newE : ∀ x ∈ S, H0 x.1 = none
  ex : Ex H0 H
section
variable {H0 H H' : Hp} {W p : Addr} {S : List (Addr × Nat × Nat)} {a r : Nat} {K : PySem.W.Frag}
theorem Wt.mono (t : Wt H0 H W S) (e : Ex H H') : Wt H0 H' W S := ⟨e _ _ t.w, fun x hx => e _ _ (t.el x hx), t.nd, t.wn, t.newW, t.newE, t.ex.trans e⟩
theorem Wt.push {H1 H3 : Hp} (t : Wt H0 H W S) (np : H p = none) (e : Ex H H1) (hp : H1 p = some (.lst [.int a, .int r])) (x : Xb W H1 H3) (hw : H3 W = some (.lst ((S.map fun x => V.ref x.1) ++ [.ref p]))) : Wt H0 H3 W (S ++ [(p, a, r)]) := by
  have pW : p ≠ W := fun z => by rw [z, t.w] at np; cases np
  have sW : ∀ y ∈ S, y.1 ≠ W := fun y hy z => t.wn (z ▸ List.mem_map_of_mem hy)
  have pS : p ∉ S.map (·.1) := fun z => by
    obtain ⟨y, hy, e1⟩ := List.mem_map.mp z
    have := t.el y hy
    rw [e1, np] at this
    cases this
  refine ⟨by rw [hw, List.map_append]; rfl, fun y hy => ?_, ?_, fun z => ?_, t.newW, fun y hy => ?_, Xb.ex (t.ex.trans e) t.newW x⟩
  · rcases List.mem_append.mp hy with hy | hy
    · exact x _ _ (sW y hy) (e _ _ (t.el y hy))
    · rw [List.mem_singleton.mp hy]; exact x _ _ pW hp
  · rw [List.map_append]
    exact List.nodup_append.mpr ⟨t.nd, by simp, fun y hy z hz e1 => by
      have hz := List.mem_singleton.mp hz
      subst e1 hz
      exact pS hy⟩
  · rw [List.map_append] at z
    rcases List.mem_append.mp z with z | z
    · exact t.wn z
    · exact pW (List.mem_singleton.mp z).symm
  · rcases List.mem_append.mp hy with hy | hy
    · exact t.newE y hy
    · rw [List.mem_singleton.mp hy]
      cases e1 : H0 p with
      | none => rfl
      | some o => rw [t.ex _ _ e1] at np; cases np
theorem Wt.pop {H3 : Hp} {q : Addr × Nat × Nat} (t : Wt H0 H W (S ++ [q])) (x : Xb W H H3) (hw : H3 W = some (.lst (S.map fun x => V.ref x.1))) : Wt H0 H3 W S := by
  have nd := t.nd
  rw [List.map_append] at nd
  have wn : W ∉ S.map (·.1) := fun z => t.wn (by rw [List.map_append]; exact List.mem_append_left _ z)
  exact ⟨hw, fun y hy => x _ _ (fun z => wn (z ▸ List.mem_map_of_mem hy)) (t.el y (List.mem_append_left _ hy)), (List.nodup_append.mp nd).1, wn, t.newW, fun y hy => t.newE y (List.mem_append_left _ hy), Xb.ex t.ex t.newW x⟩
theorem Wt.dec (t : Wt H0 H W (S ++ [(p, a, r)])) (r' : Nat) : Wt H0 (upd H p (.lst [.int a, .int r'])) W (S ++ [(p, a, r')]) := by
  have nd := t.nd
  have wn := t.wn
  rw [List.map_append] at nd wn
  have pS : ∀ y ∈ S, y.1 ≠ p := fun y hy z => (List.nodup_append.mp nd).2.2 y.1 (List.mem_map_of_mem hy) p (by simp) z
  have pW : W ≠ p := fun z => wn (by rw [z]; simp)
  have hp0 := t.newE (p, a, r) (by simp)
  refine ⟨by rw [upd_ne pW, t.w, List.map_append, List.map_append]; rfl, fun y hy => ?_, by rw [List.map_append]; exact nd, by rw [List.map_append]; exact wn, t.newW, fun y hy => ?_, Evl.Ex.mut t.ex hp0⟩
  · rcases List.mem_append.mp hy with hy | hy
    · rw [upd_ne (pS y hy)]; exact t.el y (List.mem_append_left _ hy)
    · rw [List.mem_singleton.mp hy]; exact upd_same
  · rcases List.mem_append.mp hy with hy | hy
    · exact t.newE y (List.mem_append_left _ hy)
    · rw [List.mem_singleton.mp hy]; exact hp0
def dW (S : List (Addr × Nat × Nat)) : PyData := .list (S.map fun x => .list [.int x.2.1, .int x.2.2])
theorem Wt.dp (t : Wt H0 H W S) : Dp K H (.ref W) (dW S) := .lst (SqL.of t.w) (by
  have : ∀ S : List (Addr × Nat × Nat), (∀ x ∈ S, H x.1 = some (.lst [.int x.2.1, .int x.2.2])) → DpAll K H (S.map fun x => V.ref x.1) (S.map fun x => PyData.list [.int x.2.1, .int x.2.2]) := by
    intro S
    induction S with
    | nil => intro _; exact .nil
    | cons x S ih => intro h; exact .cons (.lst (SqL.of (h x (by simp))) (.cons (.int _) (.cons (.int _) .nil))) (ih fun y hy => h y (List.mem_cons_of_mem _ hy))
  exact this S t.el)
theorem dW_sh (S : List (Addr × Nat × Nat)) : SeqAt.shaped (dW S) = true := by
  have h : ∀ S : List (Addr × Nat × Nat), PyData.canLayAll0 (S.map fun x => PyData.list [.int x.2.1, .int x.2.2]) = true ∧ PyData.depthAll (S.map fun x => PyData.list [.int x.2.1, .int x.2.2]) ≤ 1 := by
    intro S
    induction S with
    | nil => simp [PyData.canLayAll0, PyData.depthAll]
    | cons x S ih =>
      obtain ⟨h1, h2⟩ := ih
      simp [PyData.canLayAll0, PyData.canLay0, PyData.depthAll, PyData.depth, h1, h2]
  obtain ⟨h1, h2⟩ := h S
  unfold SeqAt.shaped dW
  rw [Bool.and_eq_true]
  refine ⟨by simpa [PyData.canLay0] using h1, decide_eq_true ?_⟩
  have e : PyData.depth (.list (S.map fun x => PyData.list [.int x.2.1, .int x.2.2])) = PyData.depthAll (S.map fun x => PyData.list [.int x.2.1, .int x.2.2]) + 1 := by simp [PyData.depth]
  rw [e]
  omega
theorem dW_eq (S : List (Addr × Nat × Nat)) : PyData.eqv (dW S) (.list []) = decide (S = []) := by
  cases S with
  | nil => simp [dW, PyData.eqv, PyData.eqvAll]
  | cons x S => simp [dW, PyData.eqv, PyData.eqvAll]
theorem sh_nil : SeqAt.shaped (.list []) = true := by simp [SeqAt.shaped, PyData.canLay0, PyData.canLayAll0, PyData.depth, PyData.depthAll]
end
theorem opn_len (cs : List Nat) (i : Nat) : (opn cs i).length ≤ i := by
  unfold opn
  have h2 := List.length_filter_le (fun p => decide (i < endo cs p)) (List.range i)
  rw [List.length_range] at h2
  exact h2
/-- waiting != [] -/
theorem ne_nil {X : Cx} {P : Program} {w : World} {K : PySem.W.Frag} {mg : Str → Option Value} {base : Heap} {N : List Str} {sc : Scope} {k : Nat} {H0 H : Hp} {W E : Addr} {S : List (Addr × Nat × Nat)} {Q : VK} (C : Ctx X P w K mg base N sc k) (t : Wt H0 H W S) (hE : H E = some (.lst [])) (q : Q (.bl (!decide (S = []))) H) : zO X (compareOp .NotEq) (.ref W) (.ref E) H Q :=
  o_neD C t.dp (.lst (SqL.of hE) .nil) (dW_sh S) sh_nil (by rw [dW_eq]; exact q)
def spOpen : Sp := fun vs H Q _ => ∃ (z : Str) (n : Nat), vs = [.str z, .int n] ∧ z.length ≤ 100000 ∧ Tree (tl z) ∧ n < (tl z).length ∧ ∀ p H', H p = none → Ex H H' → H' p = some (.lst ((opn (tl z) n).map fun (i : Nat) => V.int i)) → Q (.ref p) H'
section
variable {P : Program} {w : World} {K : PySem.W.Frag} {mg : Str → Option Value} {base : Heap}
theorem ok_open_nodes {f : Addr} {fd : FuncData} (F : FnP K "open_nodes" s_open_nodes f fd) (mR : mg "range" = none) (cA : Cal P w K mg base CX0 "arity" 1 1 spArity) : FnOk P w K mg base CX0 3 f fd P_open_nodes spOpen := by
  refine fn_ok F sc_open_nodes (fun vs H Q E ⟨z, i, h, _⟩ => by rw [h]; rfl) fun X vs H Q E C hfn ⟨z, n, hv, hz, ht, hn, hq⟩ => ?_
  subst hv
  have n_tree : Nm X "tree" 0 := C.nm rfl (by decide +kernel)
  have n_index : Nm X "index" 1 := C.nm rfl (by decide +kernel)
  have n_waiting : Nm X "waiting" 2 := C.nm rfl (by decide +kernel)
  have n_at : Nm X "at" 3 := C.nm rfl (by decide +kernel)
  have w_waiting : Ns X "waiting" 2 := C.ns rfl (by decide +kernel) (.inl (hfn _))
  have w_at : Ns X "at" 3 := C.ns rfl (by decide +kernel) (.inl (hfn _))
  refine b_cons ?_
  kpc_turns
  refine n_lst (a_nil ⟨by show 0 ≤ sizeLine; decide, fun W H1 nW e1 hW => ?_⟩)
  kpc_turns
  have t0 : Wt H H1 W [] := ⟨hW, fun _ z => by (cases z), by simp, by simp, nW, fun _ z => by (cases z), e1⟩
  refine s_for C (i_range1 (C.gl (by decide +kernel)) (by rw [C.mgl]; exact mR) ?_)
  kpc_turns
  have hnl : n < 100000 := by rw [strl] at hz; omega
  refine ⟨by omega, by omega, _, _, _, fun i σ H' => ∃ S o, σ = [some (.str z), some (.int n), some (.ref W), o, none] ∧ Wt H H' W S ∧ okS (tl z) i (S.map (·.2)) ∧ (∀ x ∈ S, 1 ≤ x.2.2) ∧ opn (tl z) i = S.map (·.2.1), walk_range 0 _, ⟨[], none, rfl, t0, trivial, fun _ z => by (cases z), rfl⟩, fun _ _ _ _ _ => trivial, ?_, ?_⟩
  · rintro i x σ H2 H3 hi ⟨S, o, rfl, t2, ok2, r2, op2⟩ e3 rfl
    have hi : i < (tl z).length := by omega
    obtain ⟨c, hc⟩ : ∃ c, (tl z)[i] = c := ⟨_, rfl⟩
    have t3 := t2.mono e3
    kpc_turns
    refine ⟨W, _, rfl, t3.w, ?_⟩
    refine n_lst ?_
    kpc_turns
    refine x_s (c := c) (sz_le hz) (at_ok (by omega) (by simpa [List.getElem?_eq_getElem hi] using hc)) ?_
    kpc_turns
    refine ⟨c, rfl, ?_⟩
    kpc_turns
    refine ⟨by show 2 ≤ sizeLine; decide, fun p H4 np e4 hp => ?_⟩
    have hs : S.length ≤ n := by
      have := congrArg List.length op2
      rw [List.length_map] at this
      unfold opn at this
      have h2 := List.length_filter_le (fun p => decide (i < endo (tl z) p)) (List.range i)
      rw [List.length_range] at h2
      omega
    refine ⟨_, e4 _ _ t3.w, small_lt (by rw [List.length_map]; omega), fun H5 x5 hw5 => ?_⟩
    have hp' : H4 p = some (.lst [.int (i : Nat), .int (ar c : Nat)]) := by rw [hp]; congr; omega
    have t5 := t3.push np e4 hp' x5 hw5
    kpc_turns
    have ok5 : okS (tl z) (i + 1) ((S ++ [(p, i, ar c)]).map (·.2)) := by
      rw [List.map_append]
      have := ok_push hi (S.map (·.2)) (fun y hy => by
        obtain ⟨x, hx, rfl⟩ := List.mem_map.mp hy
        exact r2 x hx) ok2
      rw [hc] at this
      exact this
    refine s_while C (fun m σ Hc => ∃ S, σ = [some (.str z), some (.int n), some (.ref W), some (.int (0 + (i : Int))), none] ∧ Wt H Hc W S ∧ okS (tl z) (i + 1) (S.map (·.2)) ∧ (∀ x ∈ S.dropLast, 1 ≤ x.2.2) ∧ opn (tl z) (i + 1) = (S.map (·.2.1)).filter (fun p => decide (i + 1 < endo (tl z) p)) ∧ m = S.length) (S.length + 1) ⟨S ++ [(p, i, ar c)], rfl, t5, ok5, fun x hx => r2 x (by rw [List.dropLast_concat] at hx; exact hx), by rw [opn_succ, op2, List.map_append]; rfl, by simp⟩ ?_
    rintro m σ H6 ⟨S6, rfl, t6, ok6, r6, op6, rfl⟩
    have out : (∀ x ∈ S6, 1 ≤ x.2.2) → ∀ H7, Ex H6 H7 → ∃ S o, [some (V.str z), some (.int n), some (.ref W), some (.int (0 + (i : Int))), none] = [some (.str z), some (.int n), some (.ref W), o, none] ∧ Wt H H7 W S ∧ okS (tl z) (i + 1) (S.map (·.2)) ∧ (∀ x ∈ S, 1 ≤ x.2.2) ∧ opn (tl z) (i + 1) = S.map (·.2.1) := fun hr H7 e7 => by
      refine ⟨S6, _, rfl, t6.mono e7, ok6, hr, ?_⟩
      rw [op6]
      refine List.filter_eq_self.mpr fun y hy => decide_eq_true ?_
      obtain ⟨x, hx, rfl⟩ := List.mem_map.mp hy
      exact ok_open (by omega) (S6.map (·.2)) (fun y hy => by
        obtain ⟨x, hx, rfl⟩ := List.mem_map.mp hy
        exact hr x hx) ok6 x.2 (List.mem_map_of_mem hx)
    kpc_turns
    refine n_lst (a_nil ⟨by show 0 ≤ sizeLine; decide, fun E1 H7 nE e7 hE => ?_⟩)
    refine ne_nil C (t6.mono e7) hE ?_
    kpc_turns
    rcases nil_or_app S6 with rfl | ⟨S', ⟨q, a, r⟩, rfl⟩
    · kpc_turns
      exact out (fun _ z => by (cases z)) H7 e7
    · have t7 := t6.mono e7
      have ne : decide (S' ++ [(q, a, r)] = []) = false := by simp
      have hq7 : H7 q = some (.lst [.int (a : Nat), .int (r : Nat)]) := t7.el (q, a, r) (by simp)
      rw [ne]
      kpc_turns
      refine x_l (v := .ref q) (SqL.of t7.w) (at_last (by simp)) ?_
      kpc_turns
      refine if_d (fun h0 => ?_) fun h0 => ?_
      · have hr0 : r = 0 := by omega
        subst hr0
        kpc_turns
        refine ⟨W, S'.map (fun x => V.ref x.1), .ref q, rfl, by rw [t7.w, List.map_append]; rfl, fun H8 x8 hw8 => ?_⟩
        have t8 := t7.pop x8 hw8
        kpc_turns
        refine n_lst (a_nil ⟨by show 0 ≤ sizeLine; decide, fun E2 H9 nE2 e9 hE2 => ?_⟩)
        have t9 := t8.mono e9
        refine ne_nil C t9 hE2 ?_
        kpc_turns
        rcases nil_or_app S' with rfl | ⟨S'', ⟨q2, a2, r2'⟩, rfl⟩
        · kpc_turns
          refine ⟨0, by simp, [], rfl, t9, trivial, fun _ z => by (cases z), ?_, rfl⟩
          have := ok_last ok6
          rw [op6]
          simp [this]
        · have ne2 : decide (S'' ++ [(q2, a2, r2')] = []) = false := by simp
          rw [ne2]
          have hq9 : H9 q2 = some (.lst [.int (a2 : Nat), .int (r2' : Nat)]) := t9.el (q2, a2, r2') (by simp)
          have hr2 : 1 ≤ r2' := r6 (q2, a2, r2') (by simp)
          kpc_turns
          refine s_augX ?_
          kpc_turns
          refine x_l (v := .ref q2) (SqL.of t9.w) (at_last (by simp)) ?_
          kpc_turns
          refine gt_l (SqL.of hq9) (by decide) rfl ?_
          kpc_turns
          have e2 : (S'' ++ [(q2, a2, r2')] ++ [(q, a, 0)]).map (fun (x : Addr × Nat × Nat) => x.2) = S''.map (fun (x : Addr × Nat × Nat) => x.2) ++ [(a2, r2'), (a, 0)] := by simp
          rw [e2] at ok6
          obtain ⟨ok8, he⟩ := ok_pop _ _ _ _ ok6
          have t10 := t9.dec (r2' - 1)
          have e3 : ([V.int (a2 : Nat), V.int (r2' : Nat)] : List V).set (Int.toNat 1) (.int ((r2' : Int) - 1)) = [V.int (a2 : Nat), V.int ((r2' - 1 : Nat) : Int)] := by
            rw [show ((r2' : Int) - 1) = ((r2' - 1 : Nat) : Int) by omega]
            rfl
          refine ⟨(S'' ++ [(q2, a2, r2' - 1)]).length, by simp, S'' ++ [(q2, a2, r2' - 1)], rfl, by rw [e3]; exact t10, by simpa using ok8, fun y hy => r6 y ?_, ?_, rfl⟩
          · rw [List.dropLast_concat] at hy
            rw [List.dropLast_concat]
            exact List.mem_append_left _ hy
          · rw [op6, List.map_append, List.filter_append]
            have e4 : ([(q, a, 0)].map fun (x : Addr × Nat × Nat) => x.2.1).filter (fun p => decide (i + 1 < endo (tl z) p)) = [] := by
              show List.filter _ [a] = []
              rw [List.filter_cons, he, if_neg (by simp)]
              rfl
            have e5 : (S'' ++ [(q2, a2, r2')]).map (fun (x : Addr × Nat × Nat) => x.2.1) = (S'' ++ [(q2, a2, r2' - 1)]).map (fun (x : Addr × Nat × Nat) => x.2.1) := by rw [List.map_append, List.map_append]; rfl
            rw [e4, List.append_nil, e5]
      · kpc_turns
        refine out (fun y hy => ?_) H7 e7
        rcases List.mem_append.mp hy with hy | hy
        · exact r6 y (by rw [List.dropLast_concat]; exact hy)
        · rw [List.mem_singleton.mp hy]
          show 1 ≤ r
          omega
  · rintro σ H2 ⟨S, o, rfl, t2, ok2, r2, op2⟩
    kpc_turns
    refine e_lc (own := [("at", 3), ("left", 4)]) C (by decide +kernel) (i_list ?_)
    kpc_turns
    refine ⟨W, rfl, ⟨_, SqL.of t2.w⟩, _, _, _, _, walk_list W _, comp_mapG C (fun i _ => [some (.str z), some (.int n), some (.ref W), (S[i]?).map fun (x : Addr × Nat × Nat) => V.int x.2.1, (S[i]?).map fun (x : Addr × Nat × Nat) => V.int x.2.2]) (fun i => .int ((S.map fun (x : Addr × Nat × Nat) => x.2.1).getD i 0 : Nat)) ?_ (fun H' e => ex_l e (SqL.of t2.w)) ?_ ?_, ?_⟩
    · have op3 : opn (tl z) n = S.map (fun (x : Addr × Nat × Nat) => x.2.1) := by simpa using op2
      have h2 := opn_len (tl z) n
      rw [op3, List.length_map] at h2
      rw [List.length_map]
      omega
    · rintro i v H' hi e3 hy X1 C1
      have n_at : Nm X1 "at" 3 := C1.nm rfl (by decide +kernel)
      have n_left : Nm X1 "left" 4 := C1.nm rfl (by decide +kernel)
      have w_at : Ns X1 "at" 3 := C1.ns rfl (by decide +kernel) (.inr (by decide +kernel))
      have w_left : Ns X1 "left" 4 := C1.ns rfl (by decide +kernel) (.inr (by decide +kernel))
      rw [List.getElem?_map, Option.map_eq_some_iff] at hy
      obtain ⟨x, hx, rfl⟩ := hy
      refine g_unl C1 (SqL.of (e3 _ _ (t2.el x (List.mem_of_getElem? hx)))) ?_
      kpc_turns
      exact ⟨by rw [hx]; rfl, rfl, rfl⟩
    · rintro i v H' hi e3 hy X1 C1
      have n_at : Nm X1 "at" 3 := C1.nm rfl (by decide +kernel)
      have n_left : Nm X1 "left" 4 := C1.nm rfl (by decide +kernel)
      have w_at : Ns X1 "at" 3 := C1.ns rfl (by decide +kernel) (.inr (by decide +kernel))
      have w_left : Ns X1 "left" 4 := C1.ns rfl (by decide +kernel) (.inr (by decide +kernel))
      rw [List.getElem?_map, Option.map_eq_some_iff] at hy
      obtain ⟨x, hx, rfl⟩ := hy
      rw [hx]
      kpc_turns
      exact ⟨Evl.Ex.refl _, by simp [List.getD, hx]⟩
    · intro D ys H' nD e3 hD hy
      refine hq D H' (by cases e : H D with | none => rfl | some o => exact absurd (t2.ex _ _ e) (by rw [nD]; simp)) (t2.ex.trans e3) ?_
      rw [hD, hy]
      have hn2 : ((0 : Int) + (n : Int)).toNat = n := by omega
      have op3 : opn (tl z) n = S.map (fun (x : Addr × Nat × Nat) => x.2.1) := by
        have := op2
        simpa using this
      rw [op3, List.length_map]
      congr 2
      have := map_range_get (S.map fun (x : Addr × Nat × Nat) => x.2.1) 0 fun (i : Nat) => V.int i
      rw [List.length_map] at this
      exact this
end

/-! ancestors -/
abbrev s_ancestors : Stmt := topS 42
abbrev N_ancestors : List Str := ["tree", "index"]
abbrev P_ancestors : List Str := ["tree", "index"]
theorem sc_ancestors : FnScope N_ancestors P_ancestors (defScope s_ancestors) := ⟨rfl, rfl, rfl, by decide +kernel, rfl, by decide +kernel, by decide +kernel⟩

def spAnc (CT CN : Addr) : Sp := fun vs H Q E => ∃ (z : Str) (i : Int), vs = [.str z, .int i] ∧ z.length ≤ 100000 ∧ (∀ j, fault 1 0 (tl z) = some j → Out E H CT "InvalidTree" "index" (.int j)) ∧
  (fault 1 0 (tl z) = none → ¬ (0 ≤ i ∧ i < z.length) → Out E H CN "InvalidNumber" "given" (.int i)) ∧ (fault 1 0 (tl z) = none → ∀ n : Nat, i = n → n < (tl z).length → ∀ p H', H p = none → Ex H H' → H' p = some (.lst ((opn (tl z) n).map fun (i : Nat) => V.int i)) → Q (.ref p) H')
theorem old_none {H H' : Hp} {p : Addr} (e : Ex H H') (h : H' p = none) : H p = none := by
  cases e1 : H p with
  | none => rfl
  | some o => rw [e _ _ e1] at h; cases h
section
variable {P : Program} {w : World} {K : PySem.W.Frag} {mg : Str → Option Value} {base : Heap}
theorem ok_ancestors {CT CN : Addr} {f : Addr} {fd : FuncData} (F : FnP K "ancestors" s_ancestors f fd) (cT : Cal P w K mg base (L2.CX P w) "check_tree" 3 1 (spCheck CT)) (cI : Cal P w K mg base (L2.CX P w) "check_index" 3 2 (spIndex CN)) (cO : Cal P w K mg base CX0 "open_nodes" 3 2 spOpen) :
    FnOk P w K mg base (L2.CX P w) 4 f fd P_ancestors (spAnc CT CN) := by
  refine fn_okR F sc_ancestors (fun vs H Q E ⟨z, i, h, _⟩ => by rw [h]; rfl) fun X vs H Q E C hfn tk hcd hql ⟨z, i, hv, hz, x1, x2, hq⟩ => ?_
  subst hv
  have n_tree : Nm X "tree" 0 := C.nm rfl (by decide +kernel)
  have n_index : Nm X "index" 1 := C.nm rfl (by decide +kernel)
  refine b_cons ?_
  kpc_turns
  refine ⟨z, rfl, hz, fun hf H1 e1 => ?_, fun j hj d H' e hd => x1 j hj d H' e hd⟩
  kpc_turns
  refine ⟨z, i, rfl, hz, fun hi => ?_, fun hi d H' e hd => x2 hf hi d H' (e1.trans e) hd⟩
  have ht : Tree (tl z) := (fault_con _ _ _).mp hf
  rw [strl] at hi
  obtain ⟨n, rfl⟩ : ∃ n : Nat, i = n := ⟨i.toNat, by omega⟩
  have hn : n < (tl z).length := by omega
  kpc_turns
  exact ⟨z, n, rfl, hz, ht, hn, fun p H' np e hp => hq hf n rfl hn p H' (old_none e1 np) (e1.trans e) hp⟩
end

/-! the law's own feed, its draws -/
abbrev s_law_feed : Stmt := topS 44
abbrev N_law_feed : List Str := ["_law_script", "_law_cells", "_law_cell", "_law_mark"]
abbrev P_law_feed : List Str := ["_law_script"]
theorem sc_law_feed : FnScope N_law_feed P_law_feed (defScope s_law_feed) := ⟨rfl, rfl, rfl, by decide +kernel, rfl, by decide +kernel, by decide +kernel⟩
abbrev s_law_draw : Stmt := topS 45
abbrev N_law_draw : List Str := ["_law_feed_here", "_law_many", "_law_cell", "_law_one", "_law_two", "_law_drawn"]
abbrev P_law_draw : List Str := ["_law_feed_here", "_law_many"]
theorem sc_law_draw : FnScope N_law_draw P_law_draw (defScope s_law_draw) := ⟨rfl, rfl, rfl, by decide +kernel, rfl, by decide +kernel, by decide +kernel⟩
abbrev s_law_any : Stmt := topS 46
abbrev N_law_any : List Str := ["_law_feed_here", "_law_row"]
abbrev P_law_any : List Str := ["_law_feed_here", "_law_row"]
theorem sc_law_any : FnScope N_law_any P_law_any (defScope s_law_any) := ⟨rfl, rfl, rfl, by decide +kernel, rfl, by decide +kernel, by decide +kernel⟩
abbrev s_law_arity : Stmt := topS 50
abbrev N_law_arity : List Str := ["_law_letter"]
abbrev P_law_arity : List Str := ["_law_letter"]
theorem sc_law_arity : FnScope N_law_arity P_law_arity (defScope s_law_arity) := ⟨rfl, rfl, rfl, by decide +kernel, rfl, by decide +kernel, by decide +kernel⟩

/-- the feed at a, its cells at ca: seen as one thing that a draw leaves as it is -/
def feedP (a ca : Addr) (h : Heap) : Prop := ∃ (p r m : Int) (t1 t2 t3 : Tok) (n : Nat), h.get? a = some { cls := .type "list", data := .seq (#[.ref ca, .int p t1, .int r t2, .int m t3] : Array Value) n } ∧ 0 ≤ p
def FeedO (a ca : Addr) : HO := .ext (feedP a ca)
def feedL (ca : Addr) (p r m : Int) : List V := [.ref ca, .int p, .int r, .int m]
structure Feed (H : Hp) (a : Addr) : Prop where
  ex : ∃ (ca : Addr) (cells : List Int), H a = some (FeedO a ca) ∧ H ca = some (.lst (cells.map V.int)) ∧ cells.length ≤ 1000
theorem Feed.mono {H H' : Hp} {a : Addr} (f : Feed H a) (e : Ex H H') : Feed H' a := by
  obtain ⟨ca, cells, h1, h2, h3⟩ := f.ex
  exact ⟨ca, cells, e _ _ h1, e _ _ h2, h3⟩
section
variable {X : Cx} {σ : St} {H : Hp} {nx bk ct : St → Hp → Prop} {rt : VK} {Q : VK}
theorem feed_in {ps : List (Addr × Obj)} {s : Shared} {a ca : Addr} (I : Inv X ps σ H s) (h : H a = some (FeedO a ca)) : ∃ p r m : Int, 0 ≤ p ∧ Inv X ps σ (upd H a (.lst (feedL ca p r m))) s := by
  obtain ⟨⟨p, r, m, t1, t2, t3, n, hg, hp⟩, _, _⟩ := I.hok a _ h
  refine ⟨p, r, m, hp, inv_as I (by rw [h]; exact trivial) ⟨_, h⟩ ⟨by show 4 ≤ sizeLine; decide, [.ref ca, .int p t1, .int r t2, .int m t3], n, ?_, hg⟩⟩
  exact .cons rfl (.cons ⟨_, rfl⟩ (.cons ⟨_, rfl⟩ (.cons ⟨_, rfl⟩ .nil)))
theorem feed_out {ps : List (Addr × Obj)} {s : Shared} {a ca : Addr} {p r m : Int} (I : Inv X ps σ H s) (h : H a = some (.lst (feedL ca p r m))) (hp : 0 ≤ p) : Inv X ps σ (upd H a (FeedO a ca)) s := by
  obtain ⟨_, its, n, hv, hg⟩ := I.hok a _ h
  refine inv_as I (by rw [h]; exact trivial) ⟨_, h⟩ ⟨?_, ⟨_, hg⟩, ?_⟩
  · cases hv with
    | cons r0 hv =>
    cases hv with
    | cons r1 hv =>
    cases hv with
    | cons r2 hv =>
    cases hv with
    | cons r3 hv =>
    cases hv
    cases r0
    obtain ⟨t1, rfl⟩ := r1
    obtain ⟨t2, rfl⟩ := r2
    obtain ⟨t3, rfl⟩ := r3
    exact ⟨p, r, m, t1, t2, t3, n, hg, hp⟩
  · rintro h1 h2 ⟨p, r, m, t1, t2, t3, n, q, hp⟩ k
    exact ⟨p, r, m, t1, t2, t3, n, k _ q, hp⟩
/-- a def's body within which the feed is a list -/
def feedQ (a ca : Addr) (Q : VK) : VK := fun v H1 => ∃ p r m, H1 a = some (.lst (feedL ca p r m)) ∧ 0 ≤ p ∧ Q v (upd H1 a (FeedO a ca))
theorem b_feed {sts : List Stmt} {a ca : Addr} (h : H a = some (FeedO a ca)) (k : ∀ p r m : Int, 0 ≤ p → zB X sts (fun _ _ => False) (feedQ a ca rt) (fun _ _ => False) (fun _ _ => False) σ (upd H a (.lst (feedL ca p r m)))) : zB X sts nx rt bk ct σ H := by
  unfold zB at k ⊢
  intro ps s I
  obtain ⟨p, r, m, hp, I'⟩ := feed_in I h
  refine thn (k p r m hp ps s I') fun f s1 q => ?_
  cases f with
  | next => obtain ⟨_, _, _, z⟩ := q; exact z.elim
  | brk => obtain ⟨_, _, _, z⟩ := q; exact z.elim
  | cont => obtain ⟨_, _, _, z⟩ := q; exact z.elim
  | ret u => obtain ⟨v, σ', H1, I1, r1, p, r, m, h1, hp, q⟩ := q; exact ⟨v, σ', _, feed_out I1 h1 hp, r1, q⟩
end
/-- a draw gives any number below many, and leaves all as it is -/
def spDraw : Sp := fun vs H Q _ => ∃ (a : Addr) (n : Int), vs = [.ref a, .int n] ∧ Feed H a ∧ 0 < n ∧ n < 1073741824 ∧ ∀ d : Int, 0 ≤ d → d < n → Q (.int d) H
section
variable {P : Program} {w : World} {K : PySem.W.Frag} {mg : Str → Option Value} {base : Heap}
theorem ok_law_draw {f : Addr} {fd : FuncData} (F : FnP K "_law_draw" s_law_draw f fd) (mL : mg "len" = none) (mI : mg "int" = none) : FnOk P w K mg base CX0 1 f fd P_law_draw spDraw := by
  refine fn_ok F sc_law_draw (fun vs H Q E ⟨a, n, h, _⟩ => by rw [h]; rfl) fun X vs H Q E C hfn ⟨a, n, hv, hf, h0, h1, hq⟩ => ?_
  subst hv
  have n_feed_here : Nm X "_law_feed_here" 0 := C.nm rfl (by decide +kernel)
  have n_many : Nm X "_law_many" 1 := C.nm rfl (by decide +kernel)
  have n_cell : Nm X "_law_cell" 2 := C.nm rfl (by decide +kernel)
  have n_one : Nm X "_law_one" 3 := C.nm rfl (by decide +kernel)
  have n_two : Nm X "_law_two" 4 := C.nm rfl (by decide +kernel)
  have n_drawn : Nm X "_law_drawn" 5 := C.nm rfl (by decide +kernel)
  have w_cell : Ns X "_law_cell" 2 := C.ns rfl (by decide +kernel) (.inl (hfn _))
  have w_one : Ns X "_law_one" 3 := C.ns rfl (by decide +kernel) (.inl (hfn _))
  have w_two : Ns X "_law_two" 4 := C.ns rfl (by decide +kernel) (.inl (hfn _))
  have w_drawn : Ns X "_law_drawn" 5 := C.ns rfl (by decide +kernel) (.inl (hfn _))
  obtain ⟨ca, cells, ha, hc, hz⟩ := hf.ex
  have hne : ca ≠ a := ne_of hc ha (by intro z; cases z)
  refine b_feed ha fun p r m hp => ?_
  refine b_cons ?_
  kpc_turns
  have fin : ∀ (p r m : Int) (v : V), 0 ≤ p → Q v H → feedQ a ca Q v (upd H a (.lst (feedL ca p r m))) := fun p r m v hp q => ⟨p, r, m, upd_same, hp, by rw [upd_upd, upd_back ha]; exact q⟩
  refine if_d (fun h2 => ?_) fun h2 => ?_
  · kpc_turns
    have hl : (cells.map V.int).length = cells.length := List.length_map _
    rw [hl]
    have e1 : ∀ x : Int, -(2 ^ 64) < x % 2147483647 ∧ x % 2147483647 < 2 ^ 64 := fun x => by omega
    have fin2 : ∀ (p r m x : Int), 0 ≤ p → feedQ a ca Q (.int (x % n)) (upd H a (.lst (feedL ca p r m))) := fun p r m x hp => fin p r m _ hp (hq _ (Int.emod_nonneg _ (by omega)) (Int.emod_lt_of_pos _ h0))
    refine if_d (fun h3 => ?_) fun h3 => ?_
    · kpc_turns
      have hi : (p + 1 - 1).toNat < cells.length := by omega
      refine x_l (v := .int (cells[(p + 1 - 1).toNat])) (by kpt_turns) (at_ok (by omega) (by rw [List.getElem?_map, List.getElem?_eq_getElem hi]; rfl)) ?_
      kpc_turns
      refine if_d (fun h4 => ?_) fun h4 => ?_
      · rw [hl] at h4
        omega
      · kpc_turns
        refine if_d (fun h5 => ?_) fun h5 => ?_
        · kpc_turns
          refine o_mulR (e1 _) ?_
          kpc_turns
          exact fin2 (p + 1) r m _ (by omega)
        · kpc_turns
          exact fin2 (p + 1) _ m _ (by omega)
    · kpc_turns
      refine if_d (fun h4 => ?_) fun h4 => ?_
      · kpc_turns
        refine o_mulR (e1 _) ?_
        kpc_turns
        exact fin2 (p + 1) r m _ (by omega)
      · rw [hl] at h4
        omega
  · kpc_turns
    exact fin p (r / n) m _ hp (hq _ (Int.emod_nonneg _ (by omega)) (Int.emod_lt_of_pos _ h0))
/-- one of a row's: a text's sign, a list's item -/
def spAny (K : PySem.W.Frag) : Sp := fun vs H Q _ => ∃ (a : Addr) (y : V), vs = [.ref a, y] ∧ Feed H a ∧
  ((∃ z : Str, y = .str z ∧ tl z ≠ [] ∧ z.length ≤ 100000 ∧ ∀ c ∈ tl z, Q (.str ⟨#[c]⟩) H) ∨ ∃ l xs, y = .ref l ∧ SqL K H l xs ∧ xs ≠ [] ∧ xs.length ≤ 100000 ∧ ∀ x ∈ xs, Q x H)
theorem ok_law_any {f : Addr} {fd : FuncData} (F : FnP K "_law_any" s_law_any f fd) (mL : mg "len" = none) (cD : Cal P w K mg base CX0 "_law_draw" 1 2 spDraw) : FnOk P w K mg base CX0 2 f fd P_law_any (spAny K) := by
  refine fn_ok F sc_law_any (fun vs H Q E ⟨a, n, h, _⟩ => by rw [h]; rfl) fun X vs H Q E C hfn ⟨a, y, hv, hf, hq⟩ => ?_
  subst hv
  have n_feed_here : Nm X "_law_feed_here" 0 := C.nm rfl (by decide +kernel)
  have n_row : Nm X "_law_row" 1 := C.nm rfl (by decide +kernel)
  refine b_cons ?_
  rcases hq with ⟨z, rfl, hz0, hz, hq⟩ | ⟨l, xs, rfl, hl, hz0, hz, hq⟩
  · kpc_turns
    refine c_lenS (sz_le hz) ?_
    kpc_turns
    have h1 : 0 < (tl z).length := List.length_pos_iff.mpr hz0
    rw [lenI_tl]
    rw [len_tl] at hz
    refine ⟨a, _, rfl, hf, by omega, by omega, fun d h2 h3 => ?_⟩
    have hi : d.toNat < (tl z).length := by omega
    refine x_s (c := (tl z)[d.toNat]) (by rw [len_tl]; exact sz_le hz) (at_ok h2 (List.getElem?_eq_getElem hi)) (hq _ (List.getElem_mem hi))
  · kpc_turns
    refine c_lenL (by rw [C.frg]; exact hl) ?_
    kpc_turns
    have h1 : 0 < xs.length := List.length_pos_iff.mpr hz0
    refine ⟨a, _, rfl, hf, by omega, by omega, fun d h2 h3 => ?_⟩
    have hi : d.toNat < xs.length := by omega
    refine x_l (v := xs[d.toNat]) (by rw [C.frg]; exact hl) (at_ok h2 (List.getElem?_eq_getElem hi)) (hq _ (List.getElem_mem hi))
theorem ok_law_arity {f : Addr} {fd : FuncData} (F : FnP K "_law_arity" s_law_arity f fd) : FnOk P w K mg base CX0 1 f fd P_law_arity spArity := by
  refine fn_ok F sc_law_arity (fun vs H Q E ⟨c, h, _⟩ => by rw [h]; rfl) fun X vs H Q E C hfn ⟨c, hv, hq⟩ => ?_
  subst hv
  have n_letter : Nm X "_law_letter" 0 := C.nm rfl (by decide +kernel)
  unfold ar at hq
  refine b_cons ?_
  kpc_turns
  refine if_d (fun hc => ?_) fun hc => ?_
  · rw [if_pos (show c ∈ tl zLeaves from hc)] at hq
    kpc_turns
    exact hq
  · rw [if_neg (show ¬ c ∈ tl zLeaves from hc)] at hq
    kpc_turns
    refine if_d (fun hd => ?_) fun hd => ?_
    · rw [if_pos (show c ∈ tl zSingles from hd)] at hq
      kpc_turns
      exact hq
    · rw [if_neg (show ¬ c ∈ tl zSingles from hd)] at hq
      kpc_turns
      exact hq
end

/-! the law's feed made; drawn letters -/
abbrev s_law_letters : Stmt := topS 54
abbrev N_law_letters : List Str := ["_law_feed_here", "_law_found", "_law_k", "_law_at", "_law_one"]
abbrev P_law_letters : List Str := ["_law_feed_here"]
theorem sc_law_letters : FnScope N_law_letters P_law_letters (defScope s_law_letters) := ⟨rfl, rfl, rfl, by decide +kernel, rfl, by decide +kernel, by decide +kernel⟩

def oneS (c : Nat) : Str := ⟨#[c]⟩
def oneV (c : Nat) : V := .str (oneS c)
def spFeed (K : PySem.W.Frag) : Sp := fun vs H Q _ => ∃ (a : Addr) (ns : List Int), vs = [.ref a] ∧ SqL K H a (ns.map V.int) ∧ ns.length ≤ 1000 ∧ ∀ p H', Feed H' p → Ex H H' → Q (.ref p) H'
/-- what is drawn for letters -/
structure LettersOk (z : Str) : Prop where
  all : ∀ c ∈ tl z, c ∈ tl zLetters
  leaf : ∃ c ∈ tl z, c ∈ tl zLeaves
  lt : (tl z).Pairwise (· < ·)
  len : (tl z).length ≤ 6
def spLetters : Sp := fun vs H Q _ => ∃ a, vs = [.ref a] ∧ Feed H a ∧ ∀ z H', LettersOk z → Ex H H' → Q (.str z) H'
section
variable {X : Cx} {σ : St} {H : Hp} {Q : VK}
theorem e_feed {e : Expr} (h : zE X e σ H fun v H1 => ∃ a ca p r m, v = .ref a ∧ H1 a = some (.lst (feedL ca p r m)) ∧ 0 ≤ p ∧ Q v (upd H1 a (FeedO a ca))) : zE X e σ H Q := by
  unfold zE at h ⊢
  exact fun ps s I => thn (h ps s I) fun u s1 ⟨v, H1, I1, r1, a, ca, p, r, m, ev, h1, hp, q⟩ => ⟨v, _, feed_out I1 h1 hp, r1, q⟩
end
section
variable {P : Program} {w : World} {K : PySem.W.Frag} {mg : Str → Option Value} {base : Heap}
theorem ok_law_feed {f : Addr} {fd : FuncData} (F : FnP K "_law_feed" s_law_feed f fd) (mL : mg "len" = none) (mI : mg "int" = none) : FnOk P w K mg base CX0 1 f fd P_law_feed (spFeed K) := by
  refine fn_ok F sc_law_feed (fun vs H Q E ⟨a, n, h, _⟩ => by rw [h]; rfl) fun X vs H Q E C hfn ⟨a, ns, hv, hs, hn, hq⟩ => ?_
  subst hv
  have hs' : SqL X.K H a (ns.map V.int) := by rw [C.frg]; exact hs
  have n_script : Nm X "_law_script" 0 := C.nm rfl (by decide +kernel)
  have n_cells : Nm X "_law_cells" 1 := C.nm rfl (by decide +kernel)
  have n_cell : Nm X "_law_cell" 2 := C.nm rfl (by decide +kernel)
  have n_mark : Nm X "_law_mark" 3 := C.nm rfl (by decide +kernel)
  have w_cells : Ns X "_law_cells" 1 := C.ns rfl (by decide +kernel) (.inl (hfn _))
  have w_cell : Ns X "_law_cell" 2 := C.ns rfl (by decide +kernel) (.inl (hfn _))
  have w_mark : Ns X "_law_mark" 3 := C.ns rfl (by decide +kernel) (.inl (hfn _))
  refine b_cons ?_
  refine s_lc (own := [("_law_cell", 2)]) (i := 1) C (by decide +kernel) rfl (by decide +kernel) rfl rfl (by decide +kernel) (i_list ?_)
  kpc_turns
  refine l_sl hs' fun p H1 np e1 hp => ?_
  have hc : cutV (ns.map V.int) none (some 63) = (ns.take 63).map V.int := by
    have := cutV_take (ns.map V.int) 63
    rw [← List.map_take] at this
    exact this
  rw [hc] at hp
  obtain ⟨ms, hms⟩ : ∃ ms, ns.take 63 = ms := ⟨_, rfl⟩
  have hl : ms.length ≤ 63 := by rw [← hms]; simp; omega
  rw [hms] at hp
  refine ⟨p, rfl, ⟨_, SqL.of hp⟩, _, _, _, _, walk_list p (ms.map V.int), comp_map (j := 2) C (fun i => .int (ms.getD i 0)) (by simp; omega) (fun H' e => ex_l e (SqL.of hp)) rfl (by decide +kernel) (fun _ => rfl) ?_, ?_⟩
  · intro i v H' hi e2 hy X1 C1
    obtain ⟨x, hx, rfl⟩ := getElem?_mapV hy
    have hm : mg "int" = none := mI
    have n_cell : Nm X1 "_law_cell" 2 := C1.nm rfl (by decide +kernel)
    have w_cell : Ns X1 "_law_cell" 2 := C1.ns rfl (by decide +kernel) (.inr (by decide +kernel))
    kpc_turns
    exact ⟨Evl.Ex.refl _, by rw [getD_of hx]⟩
  · intro D ys H' nD e2 hD hy
    rw [List.length_map, map_range_get ms 0 V.int] at hy
    subst hy
    kpc_turns
    refine s_for C (i_list ?_)
    kpc_turns
    refine ⟨D, rfl, ⟨_, SqL.of hD⟩, _, _, _, fun i σ H2 => ∃ (m : Int) (o : Option V), σ = [some (.ref a), some (.ref D), o, some (.int m)] ∧ Ex H' H2, walk_list D _, ⟨_, none, rfl, Evl.Ex.refl _⟩, fun i σ H2 _ ⟨_, _, _, e⟩ => ex_l e (SqL.of hD), ?_, ?_⟩
    · rintro i x σ H2 H3 hi ⟨m, o, rfl, e3⟩ e4 hy
      obtain ⟨y, hy, rfl⟩ := getElem?_mapV hy
      kpc_turns
      exact ⟨_, _, rfl, e3.trans e4⟩
    · rintro σ H2 ⟨m, o, rfl, e3⟩
      kpc_turns
      refine e_feed (n_lst ?_)
      kpc_turns
      refine ⟨by show 4 ≤ sizeLine; decide, fun q H3 nq e4 hq3 => ⟨q, D, 0, 0, m, rfl, hq3, by omega, hq q _ ⟨D, ms, upd_same, ?_, by omega⟩ ?_⟩⟩
      · have : H3 D = some (.lst (ms.map V.int)) := e4 _ _ (e3 _ _ hD)
        rw [upd_ne (ne_of_none (e3 _ _ hD) nq)]
        exact this
      · exact Evl.Ex.mut ((e1.trans (e2.trans e3)).trans e4) (ex_n (e1.trans (e2.trans e3)) nq)

/-! the dedupe of a list of signs -/
def ddF (cs : List Nat) (i : Nat) : Bool := !decide (cs.getD i 0 ∈ cs.take i)
def dd (cs : List Nat) : List Nat := ((List.range cs.length).filter (ddF cs)).map fun i => cs.getD i 0
theorem dd_mem {cs : List Nat} {c : Nat} : c ∈ dd cs ↔ c ∈ cs := by
  unfold dd
  simp only [List.mem_map, List.mem_filter, List.mem_range]
  constructor
  · rintro ⟨i, ⟨hi, _⟩, rfl⟩
    simp [List.getD, hi]
  · intro h
    have : ∃ i : Nat, cs[i]? = some c := by
      obtain ⟨i, hi, e⟩ := List.getElem_of_mem h
      exact ⟨i, by rw [List.getElem?_eq_getElem hi, e]⟩
    have h2 : ∀ n : Nat, (∃ i : Nat, i < n ∧ cs[i]? = some c) → ∃ i : Nat, i < n ∧ cs[i]? = some c ∧ c ∉ cs.take i := by
      intro n
      induction n with
      | zero => rintro ⟨i, hi, _⟩; omega
      | succ n ih =>
        rintro ⟨i, hi, e⟩
        by_cases h3 : ∃ i : Nat, i < n ∧ cs[i]? = some c
        · obtain ⟨j, hj, a, b⟩ := ih h3
          exact ⟨j, by omega, a, b⟩
        · have : i = n := by
            by_cases hin : i < n
            · exact (h3 ⟨i, hin, e⟩).elim
            · omega
          subst this
          refine ⟨i, hi, e, fun hm => h3 ?_⟩
          obtain ⟨j, hj, e2⟩ := List.getElem_of_mem hm
          rw [List.length_take] at hj
          exact ⟨j, by omega, by rw [← e2, List.getElem_take, List.getElem?_eq_getElem]⟩
    obtain ⟨i, e⟩ := this
    obtain ⟨j, hj, a, b⟩ := h2 (i + 1) ⟨i, by omega, e⟩
    have hl := (List.getElem?_eq_some_iff.mp a).1
    have hg : cs.getD j 0 = c := by simp [List.getD, a]
    exact ⟨j, ⟨hl, by unfold ddF; rw [hg]; simpa using b⟩, hg⟩
theorem dd_len (cs : List Nat) : (dd cs).length ≤ cs.length := by
  unfold dd
  rw [List.length_map]
  exact Nat.le_trans (List.length_filter_le _ _) (by simp)
theorem dd_nodup (cs : List Nat) : (dd cs).Nodup := by
  unfold dd
  have : ∀ n, n ≤ cs.length → (((List.range n).filter (ddF cs)).map fun i => cs.getD i 0).Nodup ∧ ∀ x ∈ ((List.range n).filter (ddF cs)).map (fun i => cs.getD i 0), x ∈ cs.take n := by
    intro n
    induction n with
    | zero => intro _; simp
    | succ n ih =>
      intro hn
      obtain ⟨h1, h2⟩ := ih (by omega)
      rw [List.range_succ, List.filter_append, List.map_append]
      have ht : cs.take (n + 1) = cs.take n ++ [cs.getD n 0] := by
        rw [List.take_succ, List.getElem?_eq_getElem (by omega)]
        simp [List.getD, show n < cs.length by omega]
      cases hf : ddF cs n with
      | false =>
        rw [List.filter_cons, hf]
        simp only [Bool.false_eq_true, if_false, List.filter_nil, List.map_nil, List.append_nil]
        exact ⟨h1, fun x hx => by rw [ht]; exact List.mem_append_left _ (h2 x hx)⟩
      | true =>
        rw [List.filter_cons, hf]
        simp only [if_true, List.filter_nil, List.map_cons, List.map_nil]
        refine ⟨List.nodup_append.mpr ⟨h1, by simp, fun x hx y hy e => ?_⟩, fun x hx => ?_⟩
        · unfold ddF at hf
          have hy' := List.mem_singleton.mp hy
          subst hy' e
          simp only [Bool.not_eq_true', decide_eq_false_iff_not] at hf
          exact hf (h2 _ hx)
        · rw [ht]
          rcases List.mem_append.mp hx with hx | hx
          · exact List.mem_append_left _ (h2 x hx)
          · exact List.mem_append_right _ hx
  exact (this cs.length (Nat.le_refl _)).1
theorem inV_one (c : Nat) : ∀ cs : List Nat, inV (oneV c) (cs.map oneV) = decide (c ∈ cs)
  | [] => rfl
  | d :: cs => by
    have ih := inV_one c cs
    unfold inV at ih ⊢
    rw [List.map_cons, List.any_cons, ih]
    have e : eqV (oneV d) (oneV c) = decide (c = d) := by
      have : eqV (oneV d) (oneV c) = (oneS d == oneS c) := rfl
      rw [this]
      by_cases h : c = d
      · subst h; simp
      · rw [decide_eq_false h]
        exact beq_eq_false_iff_ne.mpr fun z => h (by have := congrArg Str.cps z; simp [oneS] at this; exact this.symm)
    rw [e]
    simp [List.mem_cons, Bool.decide_or]
theorem flat_one (cs : List Nat) : (cs.map oneV).all flatV = true := by
  rw [List.all_map]
  exact List.all_eq_true.mpr fun _ _ => rfl
theorem rising_ones : ∀ (p : Nat) (es : List Nat), PyProof.Rows.risingS (oneS p) (es.map oneS) = true → (p :: es).Pairwise (· ≤ ·)
  | p, [], _ => by simp
  | p, x :: r, h => by
    rw [List.map_cons, PyProof.Rows.risingS, Bool.and_eq_true] at h
    have ih := rising_ones x r h.2
    have hle : p ≤ x := by
      have h1 := h.1
      show p ≤ x
      have : PySem.Spec.ltCps [x] [p] = false := by simpa [oneS] using h1
      simp [PySem.Spec.ltCps] at this
      exact this
    rw [List.pairwise_cons] at ih ⊢
    exact ⟨fun y hy => by
      rcases List.mem_cons.mp hy with rfl | hy
      · exact hle
      · exact Nat.le_trans hle (ih.1 y hy), List.pairwise_cons.mpr ih⟩
theorem join_nil : ∀ es : List Nat, tl (PySem.Str.join (Str.ofString "") (es.map oneS)) = es := by
  intro es
  have h := TL.tl_join (Str.ofString "") (es.map oneS)
  have e0 : TL.tl (Str.ofString "") = [] := by decide +kernel
  rw [e0, List.map_map] at h
  show TL.tl _ = _
  rw [h]
  have : ∀ es : List Nat, TL.joinL [] (es.map (TL.tl ∘ oneS)) = es := by
    intro es
    induction es with
    | nil => rfl
    | cons c r ih =>
      cases r with
      | nil => rfl
      | cons d r =>
        show [c] ++ ([] ++ TL.joinL [] ((d :: r).map (TL.tl ∘ oneS))) = _
        rw [ih]
        rfl
  exact this es
theorem any_s {K : PySem.W.Frag} {a : Addr} {z : Str} {H : Hp} {Q : VK} {E : XK} (hf : Feed H a) (h : ∀ c ∈ tl z, Q (.str (oneS c)) H) (h0 : tl z ≠ [] := by decide +kernel) (h1 : z.length ≤ 100000 := by decide +kernel) : spAny K [.ref a, .str z] H Q E :=
  ⟨a, _, rfl, hf, .inl ⟨z, rfl, h0, h1, h⟩⟩
theorem any_l {K : PySem.W.Frag} {a l : Addr} {xs : List V} {H : Hp} {Q : VK} {E : XK} (hf : Feed H a) (hl : SqL K H l xs) (h0 : xs ≠ []) (h1 : xs.length ≤ 100000) (h : ∀ x ∈ xs, Q x H) : spAny K [.ref a, .ref l] H Q E :=
  ⟨a, _, rfl, hf, .inr ⟨l, xs, rfl, hl, h0, h1, h⟩⟩
theorem draw_n {a : Addr} {n : Int} {H : Hp} {Q : VK} {E : XK} (hf : Feed H a) (h0 : 0 < n) (h1 : n < 1073741824) (h : ∀ d : Int, 0 ≤ d → d < n → Q (.int d) H) : spDraw [.ref a, .int n] H Q E := ⟨a, n, rfl, hf, h0, h1, h⟩
structure Drawn (cs : List Nat) (n : Nat) : Prop where
  all : ∀ c ∈ cs, c ∈ tl zLetters
  leaf : ∃ c ∈ cs, c ∈ tl zLeaves
  len : cs.length ≤ n
theorem Drawn.more {cs : List Nat} {n c : Nat} (d : Drawn cs n) (h : c ∈ tl zLetters) : Drawn (cs ++ [c]) (n + 1) := by
  obtain ⟨x, h1, h2⟩ := d.leaf
  refine ⟨fun y hy => ?_, ⟨x, List.mem_append_left _ h1, h2⟩, by rw [List.length_append]; have := d.len; simp; omega⟩
  rcases List.mem_append.mp hy with hy | hy
  · exact d.all y hy
  · rw [List.mem_singleton.mp hy]; exact h
theorem Drawn.wide {cs : List Nat} {n m : Nat} (d : Drawn cs n) (h : n ≤ m) : Drawn cs m := ⟨d.all, d.leaf, Nat.le_trans d.len h⟩
theorem map_oneV (cs : List Nat) : cs.map oneV = (cs.map oneS).map V.str := by rw [List.map_map]; rfl
/-- sorted and joined: the letters -/
theorem letters_end {cs : List Nat} (d : Drawn cs 6) {ys : List Str} (hp : ys.Perm ((dd cs).map oneS)) (hs : PyProof.Rows.sortedS ys = true) : LettersOk (PySem.Str.join (Str.ofString "") ys) ∧ (ys.map (·.length)).sum + ys.length * (Str.ofString "").length ≤ 16777216 := by
  obtain ⟨es, rfl⟩ : ∃ es : List Nat, ys = es.map oneS := by
    refine ⟨ys.map fun y => (tl y).headD 0, ?_⟩
    rw [List.map_map]
    have : ∀ y ∈ ys, (oneS ∘ fun y => (tl y).headD 0) y = y := fun y hy => by
      obtain ⟨c, _, rfl⟩ := List.mem_map.mp (hp.mem_iff.mp hy)
      rfl
    rw [List.map_congr_left this, List.map_id'']
    intro x; rfl
  have he : es.Perm (dd cs) := by
    have h2 := hp.map fun y => (tl y).headD 0
    rw [List.map_map, List.map_map] at h2
    have e : ∀ l : List Nat, l.map ((fun y => (tl y).headD 0) ∘ oneS) = l := fun l => by
      have : ((fun y => (tl y).headD 0) ∘ oneS) = id := rfl
      rw [this, List.map_id]
    rw [e, e] at h2
    exact h2
  have hlen : es.length ≤ 6 := by
    rw [he.length_eq]
    exact Nat.le_trans (dd_len cs) d.len
  have hle : es.Pairwise (· ≤ ·) := by
    cases es with
    | nil => exact .nil
    | cons p r => exact rising_ones p r hs
  have hnd : es.Nodup := he.nodup_iff.mpr (dd_nodup cs)
  refine ⟨⟨?_, ?_, ?_, ?_⟩, ?_⟩
  · rw [join_nil]
    exact fun c hc => d.all c (dd_mem.mp (he.mem_iff.mp hc))
  · rw [join_nil]
    obtain ⟨c, h1, h2⟩ := d.leaf
    exact ⟨c, he.mem_iff.mpr (dd_mem.mpr h1), h2⟩
  · rw [join_nil]
    exact (hle.and hnd).imp fun ⟨h1, h2⟩ => Nat.lt_of_le_of_ne h1 h2
  · rw [join_nil]; exact hlen
  · have e1 : ((es.map oneS).map (·.length)).sum = es.length := by
      rw [List.map_map]
      have : ((fun y : Str => y.length) ∘ oneS) = fun _ => 1 := rfl
      rw [this]
      clear hle hnd he hp hs hlen
      induction es with
      | nil => rfl
      | cons c r ih => rw [List.map_cons, List.sum_cons, ih, List.length_cons]; omega
    have e2 : (Str.ofString "").length = 0 := by decide +kernel
    rw [e1, e2]
    omega
theorem ok_law_letters {f : Addr} {fd : FuncData} (F : FnP K "_law_letters" s_law_letters f fd) (mR : mg "range" = none) (mE : mg "enumerate" = none) (mS : mg "sorted" = none)
    (cD : Cal P w K mg base CX0 "_law_draw" 1 2 spDraw) (cA : Cal P w K mg base CX0 "_law_any" 2 2 (spAny K)) : FnOk P w K mg base CX0 3 f fd P_law_letters spLetters := by
  refine fn_ok F sc_law_letters (fun vs H Q E ⟨a, h, _⟩ => by rw [h]; rfl) fun X vs H Q E C hfn ⟨a, hv, hf, hq⟩ => ?_
  subst hv
  have n_feed_here : Nm X "_law_feed_here" 0 := C.nm rfl (by decide +kernel)
  have n_found : Nm X "_law_found" 1 := C.nm rfl (by decide +kernel)
  have n_k : Nm X "_law_k" 2 := C.nm rfl (by decide +kernel)
  have w_found : Ns X "_law_found" 1 := C.ns rfl (by decide +kernel) (.inl (hfn _))
  have w_k : Ns X "_law_k" 2 := C.ns rfl (by decide +kernel) (.inl (hfn _))
  refine b_cons ?_
  kpc_turns
  refine n_lst ?_
  kpc_turns
  refine any_s hf fun c1 h1 => ?_
  kpc_turns
  refine any_s hf fun c2 h2 => ?_
  kpc_turns
  refine ⟨by show 2 ≤ sizeLine; decide, fun l H1 nl e1 hl => ?_⟩
  kpc_turns
  have sub0 : ∀ c ∈ tl zLeaves, c ∈ tl zLetters := by decide +kernel
  have d0 : Drawn [c1, c2] 2 := ⟨fun c hc => by
    rcases List.mem_cons.mp hc with rfl | hc
    · exact sub0 _ h1
    · rw [List.mem_singleton.mp hc]; exact sub0 _ h2, ⟨c1, List.mem_cons_self, h1⟩, Nat.le_refl _⟩
  refine s_for C (i_range1 (C.gl (by decide +kernel)) (by rw [C.mgl]; exact mR) ?_)
  kpc_turns
  refine draw_n (hf.mono e1) (by omega) (by omega) fun n1 hn1 hn2 => ⟨n1, rfl, by omega, by omega, _, _, _, fun i σ H2 => ∃ cs o, σ = [some (.ref a), some (.ref l), o, none, none] ∧ H2 l = some (.lst (cs.map oneV)) ∧ Ex H H2 ∧ Drawn cs (2 + i), walk_range 0 _, ⟨[c1, c2], none, rfl, hl, e1, d0⟩, fun _ _ _ _ _ => trivial, ?_, ?_⟩
  · rintro i x σ H2 H3 hi ⟨cs, o, rfl, hl2, e2, d⟩ e3 rfl
    kpc_turns
    refine ⟨l, _, rfl, e3 _ _ hl2, ?_⟩
    kpc_turns
    refine any_s ((hf.mono e2).mono e3) fun c hc => ⟨_, e3 _ _ hl2, small_lt ?_, fun H4 x4 hl4 => ?_⟩
    · rw [List.length_map]; have := d.len; omega
    kpc_turns
    have hc2 : c ∈ tl zLetters := (by decide +kernel : ∀ c ∈ tl zSingles, c ∈ tl zLetters) c hc
    exact ⟨cs ++ [c], _, rfl, by rw [List.map_append]; exact hl4, Xb.ex (e2.trans e3) nl x4, (d.more hc2).wide (by omega)⟩
  · rintro σ H2 ⟨cs, o, rfl, hl2, e2, d⟩
    kpc_turns
    refine s_for C (i_range1 (C.gl (by decide +kernel)) (by rw [C.mgl]; exact mR) ?_)
    kpc_turns
    refine draw_n (hf.mono e2) (by omega) (by omega) fun n2 hn3 hn4 => ⟨n2, rfl, by omega, by omega, _, _, _, fun i σ H2 => ∃ cs o, σ = [some (.ref a), some (.ref l), o, none, none] ∧ H2 l = some (.lst (cs.map oneV)) ∧ Ex H H2 ∧ Drawn cs (4 + i), walk_range 0 _, ⟨cs, o, rfl, hl2, e2, d.wide (by omega)⟩, fun _ _ _ _ _ => trivial, ?_, ?_⟩
    · rintro i x σ H2 H3 hi ⟨cs, o, rfl, hl2, e2, d⟩ e3 rfl
      kpc_turns
      refine ⟨l, _, rfl, e3 _ _ hl2, ?_⟩
      kpc_turns
      refine any_s ((hf.mono e2).mono e3) fun c hc => ⟨_, e3 _ _ hl2, small_lt ?_, fun H4 x4 hl4 => ?_⟩
      · rw [List.length_map]; have := d.len; omega
      kpc_turns
      have hc2 : c ∈ tl zLetters := (by decide +kernel : ∀ c ∈ tl (Str.ofString "qrstuvwxyz"), c ∈ tl zLetters) c hc
      exact ⟨cs ++ [c], _, rfl, by rw [List.map_append]; exact hl4, Xb.ex (e2.trans e3) nl x4, (d.more hc2).wide (by omega)⟩
    · rintro σ H2 ⟨cs, o, rfl, hl2, e2, d⟩
      have d6 : Drawn cs 6 := d.wide (by omega)
      kpc_turns
      refine e_lc (own := [("_law_at", 3), ("_law_one", 4)]) C (by decide +kernel) (i_enum (C.gl (by decide +kernel)) (by rw [C.mgl]; exact mE) ?_)
      kpc_turns
      refine ⟨l, _, rfl, SqL.of hl2, _, _, _, _, walk_enum l (cs.map oneV), comp_filterG C (fun i _ => [some (.ref a), some (.ref l), o, some (.int i), some (oneV (cs.getD i 0))]) (ddF cs) (fun i => oneV (cs.getD i 0)) (by rw [List.length_map]; have := d.len; omega) (fun H' e => ex_l e (SqL.of hl2)) ?_ ?_ ?_, ?_⟩
      · rintro i v H3 hi e3 ⟨T, y, rfl, hy, hT⟩ X1 C1
        obtain ⟨c, hc, rfl⟩ := getElem?_mapV hy
        have n_found : Nm X1 "_law_found" 1 := C1.nm rfl (by decide +kernel)
        have n_at : Nm X1 "_law_at" 3 := C1.nm rfl (by decide +kernel)
        have n_one : Nm X1 "_law_one" 4 := C1.nm rfl (by decide +kernel)
        have w_at : Ns X1 "_law_at" 3 := C1.ns rfl (by decide +kernel) (.inr (by decide +kernel))
        have w_one : Ns X1 "_law_one" 4 := C1.ns rfl (by decide +kernel) (.inr (by decide +kernel))
        refine g_tup C1 (SqT.of hT) ?_
        kpc_turns
        exact ⟨by rw [getD_of hc]; rfl, by rw [getD_of hc]; rfl, rfl⟩
      · rintro i v H3 hi e3 ⟨T, y, rfl, hy, hT⟩ X1 C1
        rw [List.length_map] at hi
        have n_found : Nm X1 "_law_found" 1 := C1.nm rfl (by decide +kernel)
        have n_at : Nm X1 "_law_at" 3 := C1.nm rfl (by decide +kernel)
        have n_one : Nm X1 "_law_one" 4 := C1.nm rfl (by decide +kernel)
        have w_at : Ns X1 "_law_at" 3 := C1.ns rfl (by decide +kernel) (.inr (by decide +kernel))
        have w_one : Ns X1 "_law_one" 4 := C1.ns rfl (by decide +kernel) (.inr (by decide +kernel))
        kpc_turns
        refine l_sl (SqL.of (e3 _ _ hl2)) fun p H4 np e4 hp => ?_
        rw [cutV_take, ← List.map_take] at hp
        refine o_ninL (SqL.of hp) rfl (flat_one _) ?_
        rw [inV_one]
        kpc_turns
        exact ⟨e4, rfl⟩
      · rintro i v H3 hi e3 ⟨T, y, rfl, hy, hT⟩ H4 e4 hb X1 C1
        have n_found : Nm X1 "_law_found" 1 := C1.nm rfl (by decide +kernel)
        have n_at : Nm X1 "_law_at" 3 := C1.nm rfl (by decide +kernel)
        have n_one : Nm X1 "_law_one" 4 := C1.nm rfl (by decide +kernel)
        have w_at : Ns X1 "_law_at" 3 := C1.ns rfl (by decide +kernel) (.inr (by decide +kernel))
        have w_one : Ns X1 "_law_one" 4 := C1.ns rfl (by decide +kernel) (.inr (by decide +kernel))
        kpc_turns
        exact ⟨Evl.Ex.refl _, rfl⟩
      · intro D ys H3 nD e3 hD hy
        have hy2 : ys = ((dd cs).map oneS).map V.str := by
          rw [hy, List.length_map, ← map_oneV]
          unfold dd
          rw [List.map_map]
          rfl
        refine c_sortedS (SqL.of (by rw [hD, hy2])) ?_ fun zs p H4 hp hs np e4 hz => ?_
        · rw [List.length_map]; have := dd_len cs; have := d6.len; omega
        obtain ⟨hL, hsz⟩ := letters_end d6 hp hs
        exact ⟨p, zs, rfl, SqL.of hz, hsz, hq _ _ hL ((e2.trans e3).trans e4)⟩
end

/-! the law's drawn tree -/
abbrev s_law_tree : Stmt := topS 55
abbrev N_law_tree : List Str := ["_law_feed_here", "_law_letters_here", "_law_most", "_law_leaves", "_law_letter", "_law_word", "_law_wanted"]
abbrev P_law_tree : List Str := ["_law_feed_here", "_law_letters_here", "_law_most"]
theorem sc_law_tree : FnScope N_law_tree P_law_tree (defScope s_law_tree) := ⟨rfl, rfl, rfl, by decide +kernel, rfl, by decide +kernel, by decide +kernel⟩

theorem filter_range_get {α β : Type} (xs : List α) (d : α) (p : α → Bool) (f : α → β) : (((List.range xs.length).filter fun i => p (xs.getD i d)).map fun i => f (xs.getD i d)) = (xs.filter p).map f := by
  have h := map_range_get xs d id
  have : (List.range xs.length).map (fun i => xs.getD i d) = xs := by simpa using h
  conv => rhs; rw [← this, List.filter_map, List.map_map]
  rfl
theorem con_leaf {w c : Nat} {cs : List Nat} {v : Nat} (h : con w cs = some (v + 1)) (hc : c ∈ tl zLetters) : con w (cs ++ [c]) = some (v + ar c) := by
  rw [con_app, h]
  show con (v + 1) [c] = _
  rw [con_succ hc, con_nil]
theorem ar_leaf {c : Nat} : ar c = 0 ↔ c ∈ tl zLeaves := by
  unfold ar
  split
  · simp_all
  · split <;> simp_all
def spTree : Sp := fun vs H Q _ => ∃ (a : Addr) (z : Str) (m : Int), vs = [.ref a, .str z, .int m] ∧ Feed H a ∧ LettersOk z ∧ 1 ≤ m ∧ m ≤ 1000 ∧ ∀ t H', Tree (tl t) → ((tl t).length : Int) ≤ m → (∀ c ∈ tl t, c ∈ tl z) → Ex H H' → Q (.str t) H'
section
variable {P : Program} {w : World} {K : PySem.W.Frag} {mg : Str → Option Value} {base : Heap}
theorem ok_law_tree {f : Addr} {fd : FuncData} (F : FnP K "_law_tree" s_law_tree f fd) (mL : mg "len" = none)
    (cN : Cal P w K mg base CX0 "_law_arity" 1 1 spArity) (cA : Cal P w K mg base CX0 "_law_any" 2 2 (spAny K)) : FnOk P w K mg base CX0 3 f fd P_law_tree spTree := by
  refine fn_ok F sc_law_tree (fun vs H Q E ⟨a, _, _, h, _⟩ => by rw [h]; rfl) fun X vs H Q E C hfn ⟨a, z, m, hv, hf, hz, hm1, hm2, hq⟩ => ?_
  subst hv
  have n_feed_here : Nm X "_law_feed_here" 0 := C.nm rfl (by decide +kernel)
  have n_letters_here : Nm X "_law_letters_here" 1 := C.nm rfl (by decide +kernel)
  have n_most : Nm X "_law_most" 2 := C.nm rfl (by decide +kernel)
  have n_leaves : Nm X "_law_leaves" 3 := C.nm rfl (by decide +kernel)
  have n_letter : Nm X "_law_letter" 4 := C.nm rfl (by decide +kernel)
  have n_word : Nm X "_law_word" 5 := C.nm rfl (by decide +kernel)
  have n_wanted : Nm X "_law_wanted" 6 := C.nm rfl (by decide +kernel)
  have w_leaves : Ns X "_law_leaves" 3 := C.ns rfl (by decide +kernel) (.inl (hfn _))
  have w_letter : Ns X "_law_letter" 4 := C.ns rfl (by decide +kernel) (.inl (hfn _))
  have w_word : Ns X "_law_word" 5 := C.ns rfl (by decide +kernel) (.inl (hfn _))
  have w_wanted : Ns X "_law_wanted" 6 := C.ns rfl (by decide +kernel) (.inl (hfn _))
  refine b_cons ?_
  refine s_lc (own := [("_law_letter", 4)]) (i := 3) C (by decide +kernel) rfl (by decide +kernel) rfl rfl (by decide +kernel) (i_str ?_)
  kpc_turns
  refine ⟨_, _, _, _, walk_str z, comp_filter (j := 4) C (fun i => decide (ar ((tl z).getD i 0) = 0)) (fun i => oneV ((tl z).getD i 0)) (by have := hz.len; omega) (fun _ _ => trivial) rfl (by decide +kernel) (fun _ => rfl) ?_ ?_, ?_⟩
  · rintro i v H' hi e2 ⟨c, hc, rfl⟩ X1 C1
    have n_letter : Nm X1 "_law_letter" 4 := C1.nm rfl (by decide +kernel)
    have w_letter : Ns X1 "_law_letter" 4 := C1.ns rfl (by decide +kernel) (.inr (by decide +kernel))
    kpc_turns
    refine ⟨c, rfl, ?_⟩
    kpc_turns
    exact ⟨Evl.Ex.refl _, by rw [getD_of hc]; exact dec_cg (by omega)⟩
  · rintro i v H' hi e2 ⟨c, hc, rfl⟩ H3 e3 hb X1 C1
    have n_letter : Nm X1 "_law_letter" 4 := C1.nm rfl (by decide +kernel)
    have w_letter : Ns X1 "_law_letter" 4 := C1.ns rfl (by decide +kernel) (.inr (by decide +kernel))
    kpc_turns
    exact ⟨Evl.Ex.refl _, by rw [getD_of hc]; rfl⟩
  · intro D ys H1 nD e1 hD hy
    rw [filter_range_get (tl z) 0 (fun c => decide (ar c = 0)) oneV] at hy
    subst hy
    kpc_turns
    refine ⟨by show 2 ≤ sizeLine; decide, rfl, fun H2 e2 => ?_⟩
    kpc_turns
    have mem : ∀ c ∈ tl z, c ∈ tl zLetters := hz.all
    have lv0 : (tl z).filter (fun c => decide (ar c = 0)) ≠ [] := by
      obtain ⟨c, h1, h2⟩ := hz.leaf
      exact List.ne_nil_of_mem (List.mem_filter.mpr ⟨h1, decide_eq_true (ar_leaf.mpr h2)⟩)
    have lvn : ((tl z).filter (fun c => decide (ar c = 0))).length ≤ 6 := Nat.le_trans (List.length_filter_le _ _) hz.len
    have z0 : tl z ≠ [] := by
      obtain ⟨c, h1, h2⟩ := hz.leaf
      exact List.ne_nil_of_mem h1
    refine s_while C (fun k σ Hc => ∃ (wd : Str) (v : Nat) (o : Option V), σ = [some (.ref a), some (.str z), some (.int m), some (.ref D), o, some (.str wd), some (.int v)] ∧ Ex H1 Hc ∧ con 1 (tl wd) = some v ∧ (∀ c ∈ tl wd, c ∈ tl z) ∧ (((tl wd).length + v : Nat) : Int) ≤ m ∧ k = m.toNat - (tl wd).length) m.toNat ⟨Str.ofString "", 1, _, rfl, e2, con_nil 1, fun c hc => (by cases hc), by show ((0 + 1 : Nat) : Int) ≤ m; omega, by show m.toNat = m.toNat - 0; omega⟩ ?_
    rintro k σ Hc ⟨wd, v, o, rfl, e3, hcon, hin, hlen, rfl⟩
    have wl : wd.length = (tl wd).length := len_tl wd
    kpc_turns
    refine if_d (fun hv => ?_) fun hv => ?_
    · have fin : ∀ (c : Nat) (o : Option V) (H4 : Hp), c ∈ tl z → ((((tl wd).length + v : Nat) : Int) + ar c ≤ m) → Ex H1 H4 → ∃ m', m' < m.toNat - (tl wd).length ∧ ∃ (wd' : Str) (v' : Nat) (o : Option V), [some (V.ref a), some (.str z), some (.int m), some (.ref D), some (oneV c), some (.str (wd ++ oneS c)), some (.int ((v : Int) + ar c - 1))] = [some (.ref a), some (.str z), some (.int m), some (.ref D), o, some (.str wd'), some (.int v')] ∧ Ex H1 H4 ∧ con 1 (tl wd') = some v' ∧ (∀ c ∈ tl wd', c ∈ tl z) ∧ (((tl wd').length + v' : Nat) : Int) ≤ m ∧ m' = m.toNat - (tl wd').length := by
        intro c o H4 hc hle e4
        obtain ⟨u, rfl⟩ : ∃ u, v = u + 1 := ⟨v - 1, by omega⟩
        have tw : tl (wd ++ oneS c) = tl wd ++ [c] := by rw [tl_app]; rfl
        refine ⟨m.toNat - (tl (wd ++ oneS c)).length, ?_, wd ++ oneS c, u + ar c, some (oneV c), ?_, e4, by rw [tw]; exact con_leaf hcon (mem c hc), ?_, ?_, rfl⟩
        · rw [tw, List.length_append, List.length_singleton]; omega
        · have : ((u + 1 : Nat) : Int) + (ar c : Int) - 1 = ((u + ar c : Nat) : Int) := by omega
          rw [this]
        · rw [tw]
          intro d hd
          rcases List.mem_append.mp hd with hd | hd
          · exact hin d hd
          · rw [List.mem_singleton.mp hd]; exact hc
        · rw [tw, List.length_append, List.length_singleton]; omega
      kpc_turns
      refine any_s ((hf.mono e1).mono e3) (fun c hc => ?_) z0 (by rw [len_tl]; have := hz.len; omega)
      kpc_turns
      refine c_lenS (by rw [wl]; exact Nat.le_of_lt (small_lt (by omega))) ?_
      kpc_turns
      refine ⟨c, rfl, ?_⟩
      kpc_turns
      rw [lenI_tl]
      refine if_d (fun hb => ?_) fun hb => ?_
      · kpc_turns
        refine any_l ((hf.mono e1).mono e3) (SqL.of (e3 _ _ hD)) (by simpa using lv0) (by rw [List.length_map]; omega) fun x hx => ?_
        obtain ⟨d, hd, rfl⟩ := List.mem_map.mp hx
        obtain ⟨hd1, hd2⟩ := List.mem_filter.mp hd
        have hd3 : ar d = 0 := of_decide_eq_true hd2
        kpc_turns
        refine o_addS (by rw [wl]; show (tl wd).length + 1 ≤ sizeLine; exact Nat.le_of_lt (small_lt (by omega))) ?_
        kpc_turns
        refine ⟨d, rfl, ?_⟩
        kpc_turns
        exact fin d o Hc hd1 (by rw [hd3]; omega) e3
      · kpc_turns
        refine o_addS (by rw [wl]; show (tl wd).length + 1 ≤ sizeLine; exact Nat.le_of_lt (small_lt (by omega))) ?_
        kpc_turns
        refine ⟨c, rfl, ?_⟩
        kpc_turns
        exact fin c o Hc hc (by omega) e3
    · kpc_turns
      have : v = 0 := by omega
      subst this
      exact hq wd Hc hcon (by omega) hin (e1.trans e3)
end

/-! the law's own ends and children -/
abbrev s_law_end : Stmt := topS 52
abbrev N_law_end : List Str := ["_law_word", "_law_at", "_law_wanted"]
abbrev P_law_end : List Str := ["_law_word", "_law_at"]
theorem sc_law_end : FnScope N_law_end P_law_end (defScope s_law_end) := ⟨rfl, rfl, rfl, by decide +kernel, rfl, by decide +kernel, by decide +kernel⟩
abbrev s_law_kids : Stmt := topS 53
abbrev N_law_kids : List Str := ["_law_word", "_law_at", "_law_found", "_law_spot", "_law_k"]
abbrev P_law_kids : List Str := ["_law_word", "_law_at"]
theorem sc_law_kids : FnScope N_law_kids P_law_kids (defScope s_law_kids) := ⟨rfl, rfl, rfl, by decide +kernel, rfl, by decide +kernel, by decide +kernel⟩

section
variable {P : Program} {w : World} {K : PySem.W.Frag} {mg : Str → Option Value} {base : Heap}
theorem ok_law_end {f : Addr} {fd : FuncData} (F : FnP K "_law_end" s_law_end f fd) (cA : Cal P w K mg base CX0 "_law_arity" 1 1 spArity) : FnOk P w K mg base CX0 2 f fd P_law_end spEnd := by
  refine fn_ok F sc_law_end (fun vs H Q E ⟨z, i, _, h, _⟩ => by rw [h]; rfl) fun X vs H Q E C hfn ⟨z, i, v, hv, hz, hi, hcon, hq⟩ => ?_
  subst hv
  have n_word : Nm X "_law_word" 0 := C.nm rfl (by decide +kernel)
  have n_at : Nm X "_law_at" 1 := C.nm rfl (by decide +kernel)
  have n_wanted : Nm X "_law_wanted" 2 := C.nm rfl (by decide +kernel)
  have w_at : Ns X "_law_at" 1 := C.ns rfl (by decide +kernel) (.inl (hfn _))
  have w_wanted : Ns X "_law_wanted" 2 := C.ns rfl (by decide +kernel) (.inl (hfn _))
  refine b_cons ?_
  kpc_turns
  refine s_while C (fun m σ H' => ∃ wd a : Nat, σ = [some (.str z), some (.int a), some (.int wd)] ∧ H' = H ∧ con (wd + v) ((tl z).drop a) = some 0 ∧ endo (tl z) i = a + skp wd ((tl z).drop a) ∧ a ≤ (tl z).length ∧ m = (tl z).length - a) ((tl z).length - i) ⟨1, i, rfl, rfl, hcon, rfl, hi, rfl⟩ ?_
  rintro m σ H1 ⟨wd, a, rfl, rfl, hc, he, ha, rfl⟩
  kpc_turns
  refine if_d (fun h0 => ?_) fun h0 => ?_
  · obtain ⟨u, rfl⟩ : ∃ u, wd = u + 1 := ⟨wd - 1, by omega⟩
    have hlt : a < (tl z).length := by
      by_cases h : a < (tl z).length
      · exact h
      · rw [List.drop_eq_nil_of_le (by omega), con_nil] at hc
        have := Option.some.inj hc
        omega
    obtain ⟨c, hcc⟩ : ∃ c, (tl z)[a] = c := ⟨_, rfl⟩
    rw [List.drop_eq_getElem_cons hlt, hcc] at hc he
    rw [show u + 1 + v = (u + v) + 1 by omega] at hc
    obtain ⟨u2, e2, hcl, hc2⟩ := con_cons hc
    have : u2 = u + v := by omega
    subst this
    rw [skp_cons] at he
    kpc_turns
    refine x_s (c := c) (sz_le hz) (at_ok (by omega) (by simpa [List.getElem?_eq_getElem hlt] using hcc)) ?_
    kpc_turns
    refine ⟨c, rfl, ?_⟩
    kpc_turns
    refine ⟨(tl z).length - (a + 1), by omega, u + ar c, a + 1, ?_, rfl, by rw [← hc2]; congr 1; omega, by rw [he]; omega, hlt, rfl⟩
    have e1 : (((u + 1 : Nat) : Int) + (ar c : Int) - 1) = ((u + ar c : Nat) : Int) := by omega
    rw [e1]
    rfl
  · kpc_turns
    have : wd = 0 := by omega
    subst this
    rw [skp_zero] at he
    rw [he] at hq
    exact hq
theorem ok_law_kids {f : Addr} {fd : FuncData} (F : FnP K "_law_kids" s_law_kids f fd) (mR : mg "range" = none) (cA : Cal P w K mg base CX0 "_law_arity" 1 1 spArity) (cE : Cal P w K mg base CX0 "_law_end" 2 2 spEnd) : FnOk P w K mg base CX0 3 f fd P_law_kids spKidIx := by
  refine fn_ok F sc_law_kids (fun vs H Q E ⟨z, i, _, h, _⟩ => by rw [h]; rfl) fun X vs H Q E C hfn ⟨z, i, c, hv, hz, ht, hc, hq⟩ => ?_
  subst hv
  have n_word : Nm X "_law_word" 0 := C.nm rfl (by decide +kernel)
  have n_at : Nm X "_law_at" 1 := C.nm rfl (by decide +kernel)
  have n_found : Nm X "_law_found" 2 := C.nm rfl (by decide +kernel)
  have n_spot : Nm X "_law_spot" 3 := C.nm rfl (by decide +kernel)
  have n_k : Nm X "_law_k" 4 := C.nm rfl (by decide +kernel)
  have w_found : Ns X "_law_found" 2 := C.ns rfl (by decide +kernel) (.inl (hfn _))
  have w_spot : Ns X "_law_spot" 3 := C.ns rfl (by decide +kernel) (.inl (hfn _))
  have w_k : Ns X "_law_k" 4 := C.ns rfl (by decide +kernel) (.inl (hfn _))
  refine b_cons ?_
  kpc_turns
  refine n_lst (a_nil ⟨by show 0 ≤ sizeLine; decide, fun l H1 nl e1 hl => ?_⟩)
  kpc_turns
  have hi : i < (tl z).length := (List.getElem?_eq_some_iff.mp hc).1
  obtain ⟨v, hp1, hp2⟩ := tree_at ht hi
  have hcc : (tl z)[i] = c := (List.getElem?_eq_some_iff.mp hc).2
  rw [List.drop_eq_getElem_cons hi, hcc] at hp2
  obtain ⟨u, e, hcl, hp3⟩ := con_cons hp2
  have : u = v := by omega
  subst this
  refine s_for C (i_range1 (C.gl (by decide +kernel)) (by rw [C.mgl]; exact mR) ?_)
  kpc_turns
  refine x_s (c := c) (sz_le hz) (at_ok (by omega) (by simpa using hc)) ?_
  kpc_turns
  refine ⟨c, rfl, ?_⟩
  have har : ar c ≤ 2 := by unfold ar; split <;> (try split) <;> omega
  refine ⟨_, rfl, by omega, by omega, _, _, _, fun k σ H' => ∃ (a : Nat) (o : Option V), σ = [some (.str z), some (.int i), some (.ref l), some (.int a), o] ∧ Ex H H' ∧ H' l = some (.lst ((kids (tl z) k (i + 1)).map fun (n : Nat) => V.int n)) ∧ a = after (tl z) k (i + 1) ∧ con (ar c - k + u) ((tl z).drop a) = some 0 ∧ a ≤ (tl z).length, walk_range 0 _, ⟨i + 1, none, ?_, e1, hl, rfl, by rw [Nat.sub_zero, Nat.add_comm]; exact hp3, hi⟩, fun _ _ _ _ _ => trivial, ?_, ?_⟩
  · rfl
  · rintro k x σ H2 H3 hk ⟨a, o, rfl, e2, hl2, ha, hcn, hle⟩ e3 rfl
    have hk : k < ar c := by omega
    kpc_turns
    refine ⟨l, _, rfl, e3 _ _ hl2, ?_⟩
    kpc_turns
    refine ⟨_, e3 _ _ hl2, small_lt (by rw [List.length_map, kids_len]; omega), fun H4 x4 hl4 => ?_⟩
    kpc_turns
    rw [show ar c - k + u = 1 + (ar c - (k + 1) + u) by omega] at hcn
    obtain ⟨h1, h2⟩ := skp_con _ _ _ hcn
    rw [List.drop_drop] at h2
    refine ⟨z, a, _, rfl, hz, hle, hcn, ?_⟩
    kpc_turns
    refine ⟨endo (tl z) a, _, rfl, Xb.ex (e2.trans e3) nl x4, ?_, by rw [ha, after_snoc], h2, endo_le hle⟩
    rw [kids_snoc, List.map_append, ← ha]
    exact hl4
  · rintro σ H2 ⟨a, o, rfl, e2, hl2, ha, hcn, hle⟩
    kpc_turns
    refine hq l H2 nl e2 ?_
    rw [hl2]
    have : (0 : Int) + (ar c : Int) = ar c := by omega
    congr
end

/-! the law's own comparison -/
abbrev s_law_whole : Stmt := topS 47
abbrev N_law_whole : List Str := ["_law_found"]
abbrev P_law_whole : List Str := ["_law_found"]
theorem sc_law_whole : FnScope N_law_whole P_law_whole (defScope s_law_whole) := ⟨rfl, rfl, rfl, by decide +kernel, rfl, by decide +kernel, by decide +kernel⟩
abbrev s_law_same : Stmt := topS 48
abbrev N_law_same : List Str := ["_law_found", "_law_due", "_law_one", "_law_other"]
abbrev P_law_same : List Str := ["_law_found", "_law_due"]
theorem sc_law_same : FnScope N_law_same P_law_same (defScope s_law_same) := ⟨rfl, rfl, rfl, by decide +kernel, rfl, by decide +kernel, by decide +kernel⟩

def flat4 : V → Bool
  | .non => true | .bl _ => true | .int _ => true | .str _ => true | _ => false
/-- x and y are the same data, n deep at most -/
def Same (H : Hp) : Nat → V → V → Prop
  | 0, x, y => x = y ∧ flat4 x = true
  | n + 1, x, y => (x = y ∧ flat4 x = true) ∨ ∃ a b vs ws, x = .ref a ∧ y = .ref b ∧ ((H a = some (.lst vs) ∧ H b = some (.lst ws)) ∨ (H a = some (.tup vs) ∧ H b = some (.tup ws))) ∧ vs.length = ws.length ∧ vs.length ≤ 100000 ∧
      ∀ (i : Nat) v u, vs[i]? = some v → ws[i]? = some u → Same H n v u
theorem Same.flat {H : Hp} {x : V} (h : flat4 x = true) : ∀ n, Same H n x x
  | 0 => ⟨rfl, h⟩
  | _ + 1 => .inl ⟨rfl, h⟩
theorem Same.mono {H H' : Hp} (e : Ex H H') : ∀ {n : Nat} {x y : V}, Same H n x y → Same H' n x y
  | 0, _, _, h => h
  | n + 1, x, y, h => by
    rcases h with h | ⟨a, b, vs, ws, h1, h2, h3, h4, h5, h6⟩
    · exact .inl h
    · exact .inr ⟨a, b, vs, ws, h1, h2, h3.imp (fun z => ⟨e _ _ z.1, e _ _ z.2⟩) (fun z => ⟨e _ _ z.1, e _ _ z.2⟩), h4, h5, fun i v u i1 i2 => (h6 i v u i1 i2).mono e⟩
def spWhole : Sp := fun vs H Q _ => ∃ i : Int, vs = [.int i] ∧ Q (.bl true) H
def spSame (n : Nat) : Sp := fun vs H Q _ => ∃ x y, vs = [x, y] ∧ Same H n x y ∧ ∀ H', Ex H H' → Q (.bl true) H'
section
variable {P : Program} {w : World} {K : PySem.W.Frag} {mg : Str → Option Value} {base : Heap}
theorem ok_law_whole {f : Addr} {fd : FuncData} (F : FnP K "_law_whole" s_law_whole f fd) (mI : mg "isinstance" = none) (m1 : mg "int" = none) (m2 : mg "bool" = none) : FnOk P w K mg base CX0 1 f fd P_law_whole spWhole := by
  refine fn_ok F sc_law_whole (fun vs H Q E ⟨c, h, _⟩ => by rw [h]; rfl) fun X vs H Q E C hfn ⟨i, hv, hq⟩ => ?_
  subst hv
  have n_found : Nm X "_law_found" 0 := C.nm rfl (by decide +kernel)
  refine b_cons ?_
  kpc_turns
  exact hq
theorem ok_law_same1 {f : Addr} {fd : FuncData} (F : FnP K "_law_same" s_law_same f fd) (mI : mg "isinstance" = none) (m1 : mg "int" = none) (m2 : mg "bool" = none) (m3 : mg "str" = none) (m4 : mg "list" = none) (m5 : mg "tuple" = none) (mL : mg "len" = none) (mA : mg "all" = none) (mZ : mg "zip" = none)
    (cW : Cal P w K mg base CX0 "_law_whole" 1 1 spWhole) (n : Nat) (ih : ∀ m, n = m + 1 → Cal P w K mg base CX0 "_law_same" (m + 2) 2 (spSame m)) : FnOk P w K mg base CX0 (n + 2) f fd P_law_same (spSame n) := by
  refine fn_ok F sc_law_same (fun vs H Q E ⟨x, y, h, _⟩ => by rw [h]; rfl) fun X vs H Q E C hfn ⟨x, y, hv, hs, hq⟩ => ?_
  subst hv
  have n_found : Nm X "_law_found" 0 := C.nm rfl (by decide +kernel)
  have n_due : Nm X "_law_due" 1 := C.nm rfl (by decide +kernel)
  have flat : x = y ∧ flat4 x = true → zB X (defBody s_law_same) (fun _ H' => Q .non H') Q (fun _ _ => False) (fun _ _ => False) (start N_law_same [x, y]) H := by
    rintro ⟨rfl, hf⟩
    have hq0 := hq H (Evl.Ex.refl _)
    cases x with
    | non =>
      refine b_cons ?_
      kpc_turns
      exact hq0
    | bl b =>
      refine b_cons ?_
      kpc_turns
      simpa using hq0
    | int i =>
      refine b_cons ?_
      kpc_turns
      refine ⟨i, rfl, ?_⟩
      kpc_turns
      simpa using hq0
    | str z =>
      refine b_cons ?_
      kpc_turns
      simpa using hq0
    | _ => cases hf
  cases n with
  | zero => exact flat hs
  | succ m =>
    rcases hs with hs | ⟨a, b, vs, ws, rfl, rfl, hh, hl, hz, hi⟩
    · exact flat hs
    have cR : Cal P w K mg base CX0 "_law_same" (m + 2) 2 (spSame m) := ih m rfl
    have done : ∀ (D : Addr) (ys : List V) (H' : Hp), Ex H H' → H' D = some (.lst ys) → ys = ((List.range (min vs.length ws.length)).map fun _ => V.bl true) → zC X (.builtin "all") [.ref D] H' Q := fun D ys H' e1 hD hy => by
      refine c_all (bs := (List.range (min vs.length ws.length)).map fun _ => true) C.calm (by rw [List.map_map]; exact SqL.of (by rw [hD, hy]; rfl)) ?_
      have : ((List.range (min vs.length ws.length)).map fun _ => true).all id = true := by rw [List.all_map]; exact List.all_eq_true.mpr fun _ _ => rfl
      rw [this]
      exact hq _ e1
    rcases hh with ⟨h1, h2⟩ | ⟨h1, h2⟩
    · refine b_cons ?_
      kpc_turns
      refine if_d (fun _ => ?_) fun z => (z (by rw [hl])).elim
      kpc_turns
      refine e_lc (own := [("_law_one", 2), ("_law_other", 3)]) C (by decide +kernel) (i_zip C mZ ?_)
      kpc_turns
      refine ⟨a, b, vs, ws, rfl, rfl, .inl ⟨SqL.of h1, SqL.of h2, _, _, _, _, walk_zip a b vs ws, comp_mapG C (fun i _ => [some (.ref a), some (.ref b), vs[i]?, ws[i]?]) (fun _ => .bl true) (by omega) (fun H' e => ⟨ex_l e (SqL.of h1), ex_l e (SqL.of h2)⟩) ?_ ?_, fun D ys H' nD e1 hD hy => done D ys H' e1 hD hy⟩⟩
      · rintro i v H' hi2 e1 ⟨T, y, z, rfl, hy, hz2, hT⟩ X1 C1
        have n_one : Nm X1 "_law_one" 2 := C1.nm rfl (by decide +kernel)
        have n_other : Nm X1 "_law_other" 3 := C1.nm rfl (by decide +kernel)
        have w_one : Ns X1 "_law_one" 2 := C1.ns rfl (by decide +kernel) (.inr (by decide +kernel))
        have w_other : Ns X1 "_law_other" 3 := C1.ns rfl (by decide +kernel) (.inr (by decide +kernel))
        refine g_tup C1 (SqT.of hT) ?_
        kpc_turns
        exact ⟨by rw [hy, hz2]; rfl, rfl, rfl⟩
      · rintro i v H' hi2 e1 ⟨T, y, z, rfl, hy, hz2, hT⟩ X1 C1
        have n_one : Nm X1 "_law_one" 2 := C1.nm rfl (by decide +kernel)
        have n_other : Nm X1 "_law_other" 3 := C1.nm rfl (by decide +kernel)
        have w_one : Ns X1 "_law_one" 2 := C1.ns rfl (by decide +kernel) (.inr (by decide +kernel))
        have w_other : Ns X1 "_law_other" 3 := C1.ns rfl (by decide +kernel) (.inr (by decide +kernel))
        rw [hy, hz2]
        kpc_turns
        exact ⟨y, z, rfl, (hi i y z hy hz2).mono e1, fun H2 e2 => ⟨e2, rfl⟩⟩
    · refine b_cons ?_
      kpc_turns
      refine if_d (fun _ => ?_) fun z => (z (by rw [hl])).elim
      kpc_turns
      refine e_lc (own := [("_law_one", 2), ("_law_other", 3)]) C (by decide +kernel) (i_zip C mZ ?_)
      kpc_turns
      refine ⟨a, b, vs, ws, rfl, rfl, .inr ⟨SqT.of h1, SqT.of h2, _, _, _, _, walk_zipT a b vs ws, comp_mapG C (fun i _ => [some (.ref a), some (.ref b), vs[i]?, ws[i]?]) (fun _ => .bl true) (by omega) (fun H' e => ⟨ex_t e (SqT.of h1), ex_t e (SqT.of h2)⟩) ?_ ?_, fun D ys H' nD e1 hD hy => done D ys H' e1 hD hy⟩⟩
      · rintro i v H' hi2 e1 ⟨T, y, z, rfl, hy, hz2, hT⟩ X1 C1
        have n_one : Nm X1 "_law_one" 2 := C1.nm rfl (by decide +kernel)
        have n_other : Nm X1 "_law_other" 3 := C1.nm rfl (by decide +kernel)
        have w_one : Ns X1 "_law_one" 2 := C1.ns rfl (by decide +kernel) (.inr (by decide +kernel))
        have w_other : Ns X1 "_law_other" 3 := C1.ns rfl (by decide +kernel) (.inr (by decide +kernel))
        refine g_tup C1 (SqT.of hT) ?_
        kpc_turns
        exact ⟨by rw [hy, hz2]; rfl, rfl, rfl⟩
      · rintro i v H' hi2 e1 ⟨T, y, z, rfl, hy, hz2, hT⟩ X1 C1
        have n_one : Nm X1 "_law_one" 2 := C1.nm rfl (by decide +kernel)
        have n_other : Nm X1 "_law_other" 3 := C1.nm rfl (by decide +kernel)
        have w_one : Ns X1 "_law_one" 2 := C1.ns rfl (by decide +kernel) (.inr (by decide +kernel))
        have w_other : Ns X1 "_law_other" 3 := C1.ns rfl (by decide +kernel) (.inr (by decide +kernel))
        rw [hy, hz2]
        kpc_turns
        exact ⟨y, z, rfl, (hi i y z hy hz2).mono e1, fun H2 e2 => ⟨e2, rfl⟩⟩
end
theorem cal_same {P : Program} {w : World} {K : PySem.W.Frag} {mg : Str → Option Value} {base : Heap} {f : Addr} {fd : FuncData} (F : FnP K "_law_same" s_law_same f fd) (gm : mg "_law_same" = some (.ref f)) (mI : mg "isinstance" = none) (m1 : mg "int" = none) (m2 : mg "bool" = none) (m3 : mg "str" = none) (m4 : mg "list" = none) (m5 : mg "tuple" = none) (mL : mg "len" = none) (mA : mg "all" = none) (mZ : mg "zip" = none)
    (cW : Cal P w K mg base CX0 "_law_whole" 1 1 spWhole) : ∀ n, Cal P w K mg base CX0 "_law_same" (n + 2) 2 (spSame n)
  | 0 => cal_of F (ok_law_same1 F mI m1 m2 m3 m4 m5 mL mA mZ cW 0 fun m h => by cases h) gm fun _ _ _ _ _ _ us hl => match us, hl with | [_, _], _ => rfl
  | n + 1 => cal_of F (ok_law_same1 F mI m1 m2 m3 m4 m5 mL mA mZ cW (n + 1) fun m h => by
      have e : n = m := by omega
      subst e
      exact cal_same F gm mI m1 m2 m3 m4 m5 mL mA mZ cW n) gm fun _ _ _ _ _ _ us hl => match us, hl with | [_, _], _ => rfl

/-! the law's own first fault -/
abbrev s_law_fault : Stmt := topS 51
abbrev N_law_fault : List Str := ["_law_text", "_law_wanted", "_law_at"]
abbrev P_law_fault : List Str := ["_law_text"]
theorem sc_law_fault : FnScope N_law_fault P_law_fault (defScope s_law_fault) := ⟨rfl, rfl, rfl, by decide +kernel, rfl, by decide +kernel, by decide +kernel⟩

def fInt : Option Nat → Int
  | none => -1
  | some i => i
def spLFault : Sp := fun vs H Q _ => ∃ z : Str, vs = [.str z] ∧ z.length ≤ 100000 ∧ ∀ H', Ex H H' → Q (.int (fInt (fault 1 0 (tl z)))) H'
section
variable {P : Program} {w : World} {K : PySem.W.Frag} {mg : Str → Option Value} {base : Heap}
theorem ok_law_fault {f : Addr} {fd : FuncData} (F : FnP K "_law_fault" s_law_fault f fd) (mL : mg "len" = none) (mR : mg "range" = none) (cA : Cal P w K mg base CX0 "_law_arity" 1 1 spArity) : FnOk P w K mg base CX0 2 f fd P_law_fault spLFault := by
  refine fn_ok F sc_law_fault (fun vs H Q E ⟨c, h, _⟩ => by rw [h]; rfl) fun X vs H Q E C hfn ⟨z, hv, hz, hq⟩ => ?_
  subst hv
  have n_text : Nm X "_law_text" 0 := C.nm rfl (by decide +kernel)
  have n_wanted : Nm X "_law_wanted" 1 := C.nm rfl (by decide +kernel)
  have n_at : Nm X "_law_at" 2 := C.nm rfl (by decide +kernel)
  have w_wanted : Ns X "_law_wanted" 1 := C.ns rfl (by decide +kernel) (.inl (hfn _))
  have w_at : Ns X "_law_at" 2 := C.ns rfl (by decide +kernel) (.inl (hfn _))
  have lz : z.length = (tl z).length := len_tl z
  refine b_cons ?_
  kpc_turns
  refine s_for C (i_range1 (C.gl (by decide +kernel)) (by rw [C.mgl]; exact mR) ?_)
  kpc_turns
  refine c_lenS (sz_le hz) ?_
  kpc_turns
  rw [lenI_tl]
  refine ⟨by omega, by omega, _, _, _, fun i σ H' => ∃ (wd : Nat) (o : Option V), σ = [some (.str z), some (.int wd), o] ∧ Ex H H' ∧ fault 1 0 (tl z) = fault wd i ((tl z).drop i), walk_range 0 _, ⟨1, none, rfl, Evl.Ex.refl _, rfl⟩, fun _ _ _ _ _ => trivial, ?_, ?_⟩
  · rintro i x σ H1 H2 hi ⟨wd, o, rfl, e1, hf⟩ e2 rfl
    have hi : i < (tl z).length := by omega
    rw [List.drop_eq_getElem_cons hi] at hf
    obtain ⟨c, hc⟩ : ∃ c, (tl z)[i] = c := ⟨_, rfl⟩
    have hc' : (tl z)[i]? = some c := by rw [List.getElem?_eq_getElem hi, hc]
    rw [hc] at hf
    conv at hf => rhs; unfold fault
    have at1 : atI (tl z) (0 + (i : Int)) = some c := at_ok (by omega) (by simpa using hc')
    kpc_turns
    refine if_d (fun h0 => ?_) fun h0 => ?_
    · kpc_turns
      rw [if_pos (.inl (by omega))] at hf
      have := hq _ (e1.trans e2)
      rw [hf] at this
      simpa [fInt] using this
    · kpc_turns
      refine x_s (sz_le hz) at1 ?_
      kpc_turns
      refine if_nd (fun h1 => ?_) fun h1 => ?_
      · kpc_turns
        rw [if_pos (.inr h1)] at hf
        have := hq _ (e1.trans e2)
        rw [hf] at this
        simpa [fInt] using this
      · kpc_turns
        refine x_s (sz_le hz) at1 ?_
        kpc_turns
        refine ⟨c, rfl, ?_⟩
        kpc_turns
        rw [if_neg (by rintro (h | h); exact h0 (by omega); exact h h1)] at hf
        refine ⟨wd + ar c - 1, some (.int (0 + (i : Int))), ?_, e1.trans e2, hf⟩
        have : ((wd + ar c - 1 : Nat) : Int) = (wd : Int) + (ar c : Int) - 1 := by omega
        rw [this]
        rfl
  · rintro σ H1 ⟨wd, o, rfl, e1, hf⟩
    have hn : ((tl z).length : Int).toNat = (tl z).length := by omega
    rw [hn, List.drop_length] at hf
    conv at hf => rhs; unfold fault
    kpc_turns
    refine if_d (fun h0 => ?_) fun h0 => ?_
    · kpc_turns
      rw [if_pos (by omega)] at hf
      have := hq _ e1
      rw [hf] at this
      exact this
    · kpc_turns
      refine c_lenS (sz_le hz) ?_
      rw [if_neg (by omega)] at hf
      have := hq _ e1
      rw [hf] at this
      rw [lenI_tl]
      exact this
end

/-! what is refused: the law's try with its clauses -/
abbrev s_law_refused : Stmt := topS 49
abbrev N_law_refused : List Str := ["_law_ask", "_law_told", "e"]
abbrev P_law_refused : List Str := ["_law_ask"]
theorem sc_law_refused : FnScope N_law_refused P_law_refused (defScope s_law_refused) := ⟨rfl, rfl, rfl, by decide +kernel, rfl, by decide +kernel, by decide +kernel⟩

/-- the clauses: their classes, the field that each reads -/
def errTab : List (List Str × Option Str) := [(["InvalidTree", "InvalidRule", "InvalidMove", "UnknownLetter", "InvalidRow"], some "index"), (["InvalidRooms", "InvalidNumber"], some "given"), (["TooMany", "TooWide", "TooLong", "CapacityExceeded"], some "limit"), (["InvalidName", "DuplicateName", "WrongKind", "InUse", "UnknownName"], some "name"), (["InvalidContext", "NoLeaf", "NothingLeft"], none), (["Unjoined"], some "room"), (["UnlikeLetters"], some "letter"), (["Unlike"], some "tree"), (["Boundless"], some "gain"), (["InvalidCommand"], some "first"), (["ParseError"], some "line")]
def errNames : List Str := ["InvalidTree", "InvalidRule", "InvalidMove", "UnknownLetter", "InvalidRow", "InvalidRooms", "InvalidNumber", "TooMany", "TooWide", "TooLong", "CapacityExceeded", "InvalidName", "DuplicateName", "WrongKind", "InUse", "UnknownName", "InvalidContext", "NoLeaf", "NothingLeft", "Unjoined", "UnlikeLetters", "Unlike", "Boundless", "InvalidCommand", "ParseError"]
def tsF (K : PySem.W.Frag) (f : Str) : Addr → Value → Option Addr → TS := fun a cls d D σ H => ∃ CA dd fs tv v, cls = .ref CA ∧ d = some dd ∧ XfC K CA ∧ PySem.W.findIn K (.ref CA) "tag" = some none ∧ PySem.W.findIn K (.ref CA) f = some none ∧ H dd = some (.xd fs) ∧
  fs.lookup ("tag" : Str) = some tv ∧ fs.lookup f = some v ∧ σ[2]? = some (some (.ref a)) ∧ ∀ T H1, H T = none → Ex H H1 → H1 T = some (.tup [tv, v]) → D.nx (σ.set 1 (some (.ref T))) H1
def tsN (K : PySem.W.Frag) : Addr → Value → Option Addr → TS := fun a cls d D σ H => ∃ CA dd fs tv, cls = .ref CA ∧ d = some dd ∧ XfC K CA ∧ PySem.W.findIn K (.ref CA) "tag" = some none ∧ H dd = some (.xd fs) ∧
  fs.lookup ("tag" : Str) = some tv ∧ σ[2]? = some (some (.ref a)) ∧ ∀ T H1, H T = none → Ex H H1 → H1 T = some (.tup [tv, .non]) → D.nx (σ.set 1 (some (.ref T))) H1
section
variable {X : Cx} {p1 p2 p3 p4 p5 p6 p7 : Pos} {kk jj : Nat} {f : Str}
theorem suiteF (n : Ns X "_law_told" 1) (ne : Nm X "e" 2) (a : Addr) (oe : Obj) (cls : Value) (d : Option Addr) (pn : List (Addr × Obj)) (hz : Zc cls d oe) (hf : ∃ vs, oe.data = .fields vs) :
    PSs (X.suite a ((a, oe) :: pn)) [.Assign [.Name "_law_told" p1] (.Tuple [.Attribute (.Name "e" p2) "tag" p3, .Attribute (.Name "e" p4) f p5] kk p6) p7] (tsF X.K f a cls d) := ⟨fun pins s σ H D I h => by
  obtain ⟨CA, dd, fs, tv, v, rfl, rfl, T, n1, n2, hd, l1, l2, hs, hq⟩ := h
  have m : Nm (X.suite a ((a, oe) :: pn)) "e" 2 := ⟨ne.ix, ne.vis⟩
  have st : Ns (X.suite a ((a, oe) :: pn)) "_law_told" 1 := ⟨n.nd, n.ix, n.loc, n.fn⟩
  refine (zB_ok _).run pins s σ H D I (b_one (s_set st (n_tup ?_)))
  refine a_cons (e_xf T n1 hz hf (e_name m hs ⟨rfl, rfl, dd, fs, tv, rfl, hd, l1, ?_⟩))
  refine a_cons (e_xf T n2 hz hf (e_name m hs ⟨rfl, rfl, dd, fs, v, rfl, hd, l2, ?_⟩))
  exact a_nil ⟨by show 2 ≤ sizeLine; decide, fun p H' np e hp => hq p H' np e hp⟩⟩
theorem suiteN (n : Ns X "_law_told" 1) (ne : Nm X "e" 2) (a : Addr) (oe : Obj) (cls : Value) (d : Option Addr) (pn : List (Addr × Obj)) (hz : Zc cls d oe) (hf : ∃ vs, oe.data = .fields vs) :
    PSs (X.suite a ((a, oe) :: pn)) [.Assign [.Name "_law_told" p1] (.Tuple [.Attribute (.Name "e" p2) "tag" p3, .Constant .none jj p5] kk p6) p7] (tsN X.K a cls d) := ⟨fun pins s σ H D I h => by
  obtain ⟨CA, dd, fs, tv, rfl, rfl, T, n1, hd, l1, hs, hq⟩ := h
  have m : Nm (X.suite a ((a, oe) :: pn)) "e" 2 := ⟨ne.ix, ne.vis⟩
  have st : Ns (X.suite a ((a, oe) :: pn)) "_law_told" 1 := ⟨n.nd, n.ix, n.loc, n.fn⟩
  refine (zB_ok _).run pins s σ H D I (b_one (s_set st (n_tup ?_)))
  refine a_cons (e_xf T n1 hz hf (e_name m hs ⟨rfl, rfl, dd, fs, tv, rfl, hd, l1, ?_⟩))
  refine a_cons (e_non ?_)
  exact a_nil ⟨by show 2 ≤ sizeLine; decide, fun p H' np e hp => hq p H' np e hp⟩⟩
end
def clOf (K : PySem.W.Frag) (cl : Str → Addr) (q : List Str × Option Str) : Cl := (q.1.map fun x => .ref (cl x), match q.2 with | some f => tsF K f | none => tsN K)
/-- the class at CA is caught by the j-th clause, which reads the field f -/
structure Caught (K : PySem.W.Frag) (cl : Str → Addr) (CA : Addr) (j : Nat) (f : Option Str) : Prop where
  xf : XfC K CA
  tag : PySem.W.findIn K (.ref CA) "tag" = some none
  fld : ∀ x, f = some x → PySem.W.findIn K (.ref CA) x = some none
  at_ : ∃ q, errTab[j]? = some q ∧ q.2 = f ∧ PySem.W.exmAny K (.ref CA) (q.1.map fun x => .ref (cl x)) = some true
  not_ : ∀ i q, i < j → errTab[i]? = some q → PySem.W.exmAny K (.ref CA) (q.1.map fun x => .ref (cl x)) = some false
/-- the errors that are told, and what is told of them -/
def RefE (K : PySem.W.Frag) (cl : Str → Addr) (R : V → V → Hp → Prop) : XK := fun cls d H => ∃ CA dd fs j f tv v, cls = .ref CA ∧ d = some dd ∧ Caught K cl CA j f ∧ H dd = some (.xd fs) ∧ fs.lookup ("tag" : Str) = some tv ∧ (match f with | some x => fs.lookup x = some v | none => v = .non) ∧ R tv v H
def TRef (K : PySem.W.Frag) (cl : Str → Addr) : (XK → Hp → VK → Prop) → Hp → VK → Prop := fun tl H Q => ∀ T0 H0, H T0 = none → Ex H H0 → H0 T0 = some (.tup [.str "", .non]) → ∀ (E' : XK) (Q' : VK), (∀ v H1, Q (.ref T0) H1 → Q' v H1) →
  (∀ cls d H1, RefE K cl (fun tv v H1 => ∀ T H2, H1 T = none → Ex H1 H2 → H2 T = some (.tup [tv, v]) → Q (.ref T) H2) cls d H1 → E' cls d H1) → tl E' H0 Q'
theorem wishes_at {K : PySem.W.Frag} {i : Nat} {Wout : WX} {D : Ends} {cls : Value} {d : Option Addr} {σ : St} {H : Hp} : ∀ {l : List Cl} {j : Nat} {c : Cl}, l[j]? = some c → (∀ i' c', i' < j → l[i']? = some c' → PySem.W.exmAny K cls c'.1 = some false) → PySem.W.exmAny K cls c.1 = some true →
    (∀ a, H a = none → c.2 a cls d (offs i D) (σ.set i (some (.ref a))) H) → wishes K i Wout D l cls d σ H
  | [], j, c, h, _, _, _ => by cases h
  | c0 :: l, 0, c, h, _, h1, h2 => by
    have h : some c0 = some c := h
    cases h
    exact ⟨true, h1, fun _ => h2, fun z => by cases z⟩
  | c0 :: l, j + 1, c, h, h0, h1, h2 => ⟨false, h0 0 c0 (Nat.succ_pos j) rfl, fun z => by (cases z), fun _ => wishes_at (j := j) h (fun i' c' hi hc => h0 (i' + 1) c' (by omega) hc) h1 h2⟩
section
variable {P : Program} {w : World} {K : PySem.W.Frag} {mg : Str → Option Value} {base : Heap}
theorem gets_refused {cl : Str → Addr} {g : Addr} {fd : FuncData} {j : Nat} (F : FnP K "_law_refused" s_law_refused g fd) (gm : mg "_law_refused" = some (.ref g)) (gE : ∀ x ∈ errNames, mg x = some (.ref (cl x))) : Gets P w K mg base "_law_refused" j (TRef K cl) := by
  refine ⟨g, fd, defArgs s_law_refused, defBody s_law_refused, defScope s_law_refused, "_law_ask", N_law_refused, F, gm, F.bindsN fun _ _ _ _ _ _ us hl => (match us, hl with | [_], _ => rfl), sc_law_refused, rfl, .inl (by decide +kernel), by decide, by decide, ?_⟩
  rintro X0 rfl rfl rfl rfl rfl hr cdv q f c' s H Q tl act hc h
  refine ⟨zBt _ _, zB_ok _, ?_⟩
  show zB (cxOf C8.CX0 X0.prog X0.w X0.K X0.mg X0.base N_law_refused "_law_refused" (defScope s_law_refused) g cdv X0.A X0.stack s H C8.E0).nox _ _ _ _ _ _ _
  obtain ⟨X, hX⟩ : ∃ X, X = (cxOf C8.CX0 X0.prog X0.w X0.K X0.mg X0.base N_law_refused "_law_refused" (defScope s_law_refused) g cdv X0.A X0.stack s H C8.E0).nox := ⟨_, rfl⟩
  have C : Ctx X X0.prog X0.w X0.K X0.mg X0.base N_law_refused (defScope s_law_refused) j := by rw [hX]; exact ⟨rfl, rfl, rfl, rfl, rfl, rfl, rfl, rfl, hr.deeper _, PassesOwn.never, sc_law_refused.nd⟩
  have hfn : ∀ y, X.fn y = true := by rw [hX]; exact fun _ => rfl
  have hst : X.stack = X.env :: X.outer := by rw [hX]; rfl
  have hfr : X.env.frame = some X.env.locals := by rw [hX]; rfl
  have act' : ∀ (W : WX) (pn : List (Addr × Obj)) (xe : Value → Shared → Prop) (E : XK) (p1 p2 : Pos), Takes (X.tr pn xe) W → (∀ cls d σ' H', E cls d H' → W cls d σ' H') →
      PE (X.tr pn xe) (.Call (.Name "_law_ask" p1) [] [] p2) (fun σZ HZ Q => σZ[0]? = some (some (.ref f)) ∧ HZ c' = some (LamX.CodeO c' q) ∧ tl E HZ Q) := by rw [hX]; exact act
  rw [← hX]
  clear act
  have n_ask : Nm X "_law_ask" 0 := C.nm rfl (by decide +kernel)
  have n_told : Nm X "_law_told" 1 := C.nm rfl (by decide +kernel)
  have n_e : Nm X "e" 2 := C.nm rfl (by decide +kernel)
  have w_told : Ns X "_law_told" 1 := C.ns rfl (by decide +kernel) (.inl (hfn _))
  have w_e : Ns X "e" 2 := C.ns rfl (by decide +kernel) (.inl (hfn _))
  refine b_cons (s_set w_told (n_tup ?_))
  refine a_cons (e_str (a_cons (e_non (a_nil ⟨by show 2 ≤ sizeLine; decide, fun T0 H0 nT e0 hT => ?_⟩))))
  have K0 : X.K = X0.K := C.frg
  have gE' : ∀ x ∈ errNames, X.mg x = some (.ref (cl x)) := fun x hx => by rw [C.mgl]; exact gE x hx
  refine b_cons (zS_of (ps_catch (i := 2) (n := "e") (l := errTab.map (clOf X.K cl)) hst hfr (by rw [C.nms]; exact C.nd) (by rw [C.nms]; rfl) (C.lcl (by decide +kernel)) L2.takes0
    (tb := fun W D σ H' => ∃ Ech : XK, (∀ cls d σ' H', σ'.length = X.N.length → Ech cls d H' → W cls d σ' H') ∧ σ[0]? = some (some (.ref f)) ∧ H' c' = some (LamX.CodeO c' q) ∧ tl Ech H' fun _ H1 => D.nx σ H1)
    (fun W pn xe tkW own => ?_) (.cons (test_tup (.cons ⟨C.gl (by decide +kernel), by decide, .inl (gE' "InvalidTree" (by decide))⟩ rfl (.cons ⟨C.gl (by decide +kernel), by decide, .inl (gE' "InvalidRule" (by decide))⟩ rfl (.cons ⟨C.gl (by decide +kernel), by decide, .inl (gE' "InvalidMove" (by decide))⟩ rfl (.cons ⟨C.gl (by decide +kernel), by decide, .inl (gE' "UnknownLetter" (by decide))⟩ rfl (.cons ⟨C.gl (by decide +kernel), by decide, .inl (gE' "InvalidRow" (by decide))⟩ rfl (.nil)))))) (by show 5 ≤ sizeLine; decide)) (suiteF w_told n_e) (.cons (test_tup (.cons ⟨C.gl (by decide +kernel), by decide, .inl (gE' "InvalidRooms" (by decide))⟩ rfl (.cons ⟨C.gl (by decide +kernel), by decide, .inl (gE' "InvalidNumber" (by decide))⟩ rfl (.nil))) (by show 2 ≤ sizeLine; decide)) (suiteF w_told n_e) (.cons (test_tup (.cons ⟨C.gl (by decide +kernel), by decide, .inl (gE' "TooMany" (by decide))⟩ rfl (.cons ⟨C.gl (by decide +kernel), by decide, .inl (gE' "TooWide" (by decide))⟩ rfl (.cons ⟨C.gl (by decide +kernel), by decide, .inl (gE' "TooLong" (by decide))⟩ rfl (.cons ⟨C.gl (by decide +kernel), by decide, .inl (gE' "CapacityExceeded" (by decide))⟩ rfl (.nil))))) (by show 4 ≤ sizeLine; decide)) (suiteF w_told n_e) (.cons (test_tup (.cons ⟨C.gl (by decide +kernel), by decide, .inl (gE' "InvalidName" (by decide))⟩ rfl (.cons ⟨C.gl (by decide +kernel), by decide, .inl (gE' "DuplicateName" (by decide))⟩ rfl (.cons ⟨C.gl (by decide +kernel), by decide, .inl (gE' "WrongKind" (by decide))⟩ rfl (.cons ⟨C.gl (by decide +kernel), by decide, .inl (gE' "InUse" (by decide))⟩ rfl (.cons ⟨C.gl (by decide +kernel), by decide, .inl (gE' "UnknownName" (by decide))⟩ rfl (.nil)))))) (by show 5 ≤ sizeLine; decide)) (suiteF w_told n_e) (.cons (test_tup (.cons ⟨C.gl (by decide +kernel), by decide, .inl (gE' "InvalidContext" (by decide))⟩ rfl (.cons ⟨C.gl (by decide +kernel), by decide, .inl (gE' "NoLeaf" (by decide))⟩ rfl (.cons ⟨C.gl (by decide +kernel), by decide, .inl (gE' "NothingLeft" (by decide))⟩ rfl (.nil)))) (by show 3 ≤ sizeLine; decide)) (suiteN w_told n_e) (.cons (test_one ⟨C.gl (by decide +kernel), by decide, .inl (gE' "Unjoined" (by decide))⟩) (suiteF w_told n_e) (.cons (test_one ⟨C.gl (by decide +kernel), by decide, .inl (gE' "UnlikeLetters" (by decide))⟩) (suiteF w_told n_e) (.cons (test_one ⟨C.gl (by decide +kernel), by decide, .inl (gE' "Unlike" (by decide))⟩) (suiteF w_told n_e) (.cons (test_one ⟨C.gl (by decide +kernel), by decide, .inl (gE' "Boundless" (by decide))⟩) (suiteF w_told n_e) (.cons (test_one ⟨C.gl (by decide +kernel), by decide, .inl (gE' "InvalidCommand" (by decide))⟩) (suiteF w_told n_e) (.cons (test_one ⟨C.gl (by decide +kernel), by decide, .inl (gE' "ParseError" (by decide))⟩) (suiteF w_told n_e) .nil)))))))))))) ?_)
  · refine ⟨fun pins s' σ' H' D I ⟨Ech, hW, h1, h2, h3⟩ => ?_⟩
    exact (pss_one (ps_expr (act' _ pn xe Ech _ _ (takes_len tkW) fun cls d σ1 H1 he hl => hW cls d σ1 H1 hl he))).run pins s' σ' H' D I ⟨h1, h2, h3⟩
  · refine ⟨RefE X0.K cl (fun tv v H1 => ∀ T H2, H1 T = none → Ex H1 H2 → H2 T = some (.tup [tv, v]) → Q (.ref T) H2), ?_, rfl, e0 _ _ hc, h T0 H0 nT e0 hT _ _ (fun v H1 q1 => ?_) fun _ _ _ z => z⟩
    · rintro cls d σ' H' hlen ⟨CA, dd, fs, jj, ff, tv, v, rfl, rfl, ct, hd, l1, l2, hR⟩
      obtain ⟨q0, hq1, hq2, hq3⟩ := ct.at_
      have hlen : σ'.length = 3 := by rw [hlen, C.nms]; rfl
      refine wishes_at (j := jj) (c := clOf X.K cl q0) (by rw [List.getElem?_map, hq1]; rfl) (fun i' c1 hi hc1 => ?_) (by rw [K0]; exact hq3) fun a na => ?_
      · rw [List.getElem?_map] at hc1
        cases e1 : errTab[i']? with
        | none => rw [e1] at hc1; cases hc1
        | some q1 =>
          rw [e1] at hc1
          have hc1 : some (clOf X.K cl q1) = some c1 := hc1
          cases hc1
          rw [K0]
          exact ct.not_ i' q1 hi e1
      · have fin : ∀ T H1, H' T = none → Ex H' H1 → H1 T = some (.tup [tv, v]) → zB X (defBody s_law_refused |>.drop 2) (fun _ H' => Q .non H') Q (fun _ _ => False) (fun _ _ => False) (((σ'.set 2 (some (.ref a))).set 1 (some (.ref T))).set 2 none) H1 := fun T H1 nT1 e1 hT1 => by
          refine b_one (s_ret (e_name n_told ?_ (hR T H1 nT1 e1 hT1)))
          simp [hlen]
        have h2 : (σ'.set 2 (some (V.ref a)))[2]? = some (some (.ref a)) := by simp [hlen]
        have htag := ct.tag
        have hfld := ct.fld
        obtain ⟨q01, q02⟩ := q0
        have hq2 : q02 = ff := hq2
        subst hq2
        cases q02 with
        | some x => exact ⟨CA, dd, fs, tv, v, rfl, rfl, by rw [K0]; exact ct.xf, by rw [K0]; exact htag, by rw [K0]; exact hfld x rfl, hd, l1, l2, h2, fin⟩
        | none =>
          have l2 : v = .non := l2
          subst l2
          exact ⟨CA, dd, fs, tv, rfl, rfl, by rw [K0]; exact ct.xf, by rw [K0]; exact htag, hd, l1, h2, fin⟩
    · exact b_one (s_ret (e_name n_told rfl q1))
end

/-! small things for the laws -/
theorem str_len (z : Str) : z.length = (tl z).length := len_tl z
theorem draw_to {a : Addr} {n : Int} {H : Hp} {Q : VK} {E : XK} (hf : Feed H a) (h0 : 0 < n) (h1 : n < 1073741824) (h : ∀ d : Nat, (d : Int) < n → Q (.int d) H) : spDraw [.ref a, .int n] H Q E :=
  draw_n hf h0 h1 fun d h2 h3 => by
    obtain ⟨m, rfl⟩ : ∃ m : Nat, d = m := ⟨d.toNat, by omega⟩
    exact h m h3
theorem takeS_len (z : Str) (n : Nat) : (cutS z none (some (n : Int))).length ≤ z.length := by rw [str_len, cutS_take, str_len, List.length_take]; omega
theorem dropS_len (z : Str) (n : Nat) : (cutS z (some (n : Int)) none).length ≤ z.length := by rw [str_len, cutS_drop, str_len, List.length_drop]; omega
theorem app_len (u v : Str) : (u ++ v).length = u.length + v.length := by rw [str_len, tl_app, List.length_append, str_len, str_len]
theorem Feed.extN {H H' : Hp} {a : Addr} (f : Feed H a) (e : LamX.ExtN H H') : Feed H' a := by
  obtain ⟨ca, cells, h1, h2, h3⟩ := f.ex
  exact ⟨ca, cells, e _ _ h1 (fun ps z => by unfold FeedO at z; cases z), e _ _ h2 (fun ps z => by cases z), h3⟩
theorem sh_sn {a : Str} (h : PyData.strOk a = true) : SeqAt.shaped (.tuple [.str a, .none]) = true := by simp [h, SeqAt.shaped, PyData.canLay0, PyData.canLayAll0, PyData.depth, PyData.depthAll]
theorem sh_si {a : Str} (h : PyData.strOk a = true) (i : Int) : SeqAt.shaped (.tuple [.str a, .int i]) = true := by simp [h, SeqAt.shaped, PyData.canLay0, PyData.canLayAll0, PyData.depth, PyData.depthAll]
theorem eqv_sn (a : Str) : PyData.eqv (.tuple [.str a, .none]) (.tuple [.str a, .none]) = true := by simp [PyData.eqv, PyData.eqvAll]
theorem eqv_si (a : Str) (i : Int) : PyData.eqv (.tuple [.str a, .int i]) (.tuple [.str a, .int i]) = true := by simp [PyData.eqv, PyData.eqvAll]
section
variable {P : Program} {w : World} {K : PySem.W.Frag} {mg : Str → Option Value} {base : Heap}
theorem pair_ne {T T' : Addr} {X : Cx} {H : Hp} {a b : V} {d e : PyData} {Q : VK} {N : List Str} {sc : Scope} {k : Nat} (C : Ctx X P w K mg base N sc k) (h1 : H T = some (.tup [a, b])) (h2 : H T' = some (.tup [a, b])) (ha : Dp X.K H a d) (hb : Dp X.K H b e) (sd : SeqAt.shaped (.tuple [d, e]) = true) (ev : PyData.eqv (.tuple [d, e]) (.tuple [d, e]) = true) (q : Q (.bl false) H) : zO X (compareOp .NotEq) (.ref T) (.ref T') H Q :=
  o_neD C (dp_pair h1 ha hb) (dp_pair h2 ha hb) sd sd (by rw [ev]; exact q)
end
theorem extN_xb {H0 H H' : Hp} {D : Addr} (e : LamX.ExtN H0 H) (n : H0 D = none) (x : Xb D H H') : LamX.ExtN H0 H' := fun b o h nt => x b o (fun z => by rw [z, n] at h; cases h) (e b o h nt)
theorem tabS_xb {H H' : Hp} {D T : Addr} {q : Str} {ys : List V} (t : LamX.TabS H T q) (hD : H D = some (.lst ys)) (x : Xb D H H') : LamX.TabS H' T q := by
  obtain ⟨ps, h1, h2, h3⟩ := t
  refine ⟨ps, x _ _ (fun z => by rw [z, hD] at h1; cases h1) h1, h2, fun pos cv hc => ?_⟩
  obtain ⟨c, e, h⟩ := h3 pos cv hc
  exact ⟨c, e, x _ _ (fun z => by rw [z, hD] at h; unfold LamX.CodeO at h; cases h) h⟩

/-! lambdas of the law, kept and asked one by one -/
section
variable {P : Program} {w : World} {K : PySem.W.Frag} {mg : Str → Option Value} {base : Heap}
theorem fs1_tag {tag fld : Str} {v : V} : (fs1 tag fld v).lookup ("tag" : Str) = some (.str tag) := rfl
theorem fs1_fld {tag fld : Str} {v : V} (h : (fld == ("tag" : Str)) = false) : (fs1 tag fld v).lookup fld = some v := by
  unfold fs1
  rw [List.lookup_cons, h]
  simp
/-- what is asked raises: it is told -/
theorem tref_out {cl : Str → Addr} {CA : Addr} {q : Nat} {tag fld : Str} {v : V} {TL : (XK → Hp → VK → Prop)} {H : Hp} {Q : VK} (ct : Caught K cl CA q (some fld)) (hf : (fld == ("tag" : Str)) = false) (hb : ∀ E' H0 Q', Ex H H0 → Out E' H0 CA tag fld v → TL E' H0 Q')
    (hq : ∀ T H2, Ex H H2 → H2 T = some (.tup [.str tag, v]) → Q (.ref T) H2) : TRef K cl TL H Q := by
  intro T0 H0 nT e0 hT E' Q' hQ hE
  refine hb E' H0 Q' e0 fun d H' e1 hd => hE _ _ _ ⟨CA, d, _, q, some fld, _, v, rfl, rfl, ct, hd, fs1_tag, fs1_fld hf, fun T H2 nT2 e2 hT2 => hq T H2 ((e0.trans e1).trans e2) hT2⟩
/-- .. or gives something -/
theorem tref_ok {cl : Str → Addr} {TL : (XK → Hp → VK → Prop)} {H : Hp} {Q : VK} (hb : ∀ E' H0 Q', Ex H H0 → (∀ v H1, Ex H0 H1 → Q' v H1) → TL E' H0 Q')
    (hq : ∀ T H2, Ex H H2 → H2 T = some (.tup [.str "", .non]) → Q (.ref T) H2) : TRef K cl TL H Q := by
  intro T0 H0 nT e0 hT E' Q' hQ hE
  exact hb E' H0 Q' e0 fun v H1 e1 => hQ v H1 (hq T0 H1 (e0.trans e1) (e1 _ _ hT))
/-- _law_refused(_law_ask), the lambda raises -/
theorem lam_out {X X1 : Cx} {N1 Nl ps fr : List Str} {sc1 : Scope} {k1 j jj q : Nat} {cl : Str → Addr} {σ0 σ1 : St} {H : Hp} {x : Str} {p py pos : Pos} {qn : Str} {pa : Arguments} {be : Expr} {lsc : Scope} {lcl : List (Str × Addr)} {lc : Addr} {ldv : Option Addr} {f : Addr} {vs : List V} {js : List Nat} {CA : Addr} {tag fld : Str} {v : V}
    (C1 : Ctx X1 P w K mg base N1 sc1 k1) (O : Own X X1 σ0) (gR : Gets P w K mg base "_law_refused" j (TRef K cl)) (hj : j + 2 ≤ k1) (nA : Nm X1 x jj) (hs : σ1[jj]? = some (some (.ref f))) (lk : LamK ⟨qn, pa, be, lsc, lcl, lc, ldv⟩ vs H f) (S : NdefX.nscB Nl ps fr lsc = true) (B : Bnd ⟨qn, pa, be, lsc, lcl, lc, ldv⟩ ps)
    (cp : X.Ok → NdefX.Caps X lcl fr js) (ct : Caught K cl CA q (some fld)) (hf : (fld == ("tag" : Str)) = false)
    (body : ∀ X2 H0 E' Q', Ctx X2 P w K mg base Nl lsc j → Takes X2 (WE E') → Ex H H0 → Out E' H0 CA tag fld v → zE X2 be (NdefX.startF Nl vs (js.map (NdefX.slotAt σ0))) H0 Q')
    (hg : gloB sc1 "_law_refused" = true) (hd : (x == ("__debug__" : Str)) = false := by decide) (hcd : (x == ("__classdict__" : Str)) = false := by decide) :
    zE X1 (.Call (.Name "_law_refused" p) [.Name x py] [] pos) σ1 H (fun y H4 => Ex H H4 ∧ ∃ T, y = .ref T ∧ H4 T = some (.tup [.str tag, v])) := by
  refine e_lamC C1 gR hj nA hs lk.hf lk.hc lk.dv (NdefX.nscope_by S) B (fun pins s I => O.2 _ _ _ (cp O.1) pins _ _ s I) ?_ hg (by decide) hd hcd
  exact tref_out ct hf (fun E' H0 Q' e0 ho => ⟨e0 _ _ lk.hf, lk.dv.ex e0, fun X2 C2 tk => body X2 H0 E' Q' C2 tk e0 ho⟩) fun T H2 e2 hT => ⟨e2, T, rfl, hT⟩
/-- [_law_refused(x) for x in xs] -/
theorem e_asks {X : Cx} {N : List Str} {sc : Scope} {k : Nat} {σ : St} {H : Hp} {Q : VK} {x y : Str} {j i : Nat} {px p3 p py pos2 pos : Pos} {scope : Scope} {own : List (Str × Nat)} {l : Addr} {fs : List Addr} {g : Nat → List V} (C : Ctx X P w K mg base N sc k) (hb : blkC N sc scope own = true) (h1 : N[j]? = some x) (h2 : lclB (relS scope sc) x = true)
    (hw : ∀ v, wipe ((wipe σ (own.map (·.2))).set j (some v)) (own.map (·.2)) = wipe σ (own.map (·.2))) (nl : Nm X y i) (hs : σ[i]? = some (some (.ref l))) (hl : H l = some (.lst (fs.map V.ref))) (hn : fs.length ≤ 100)
    (he : ∀ t f H' X1, fs[t]? = some f → Ex H H' → Ctx X1 P w K mg base N (relS scope sc) k → Own X X1 σ → zE X1 (.Call (.Name "_law_refused" p) [.Name x py] [] pos2) ((wipe σ (own.map (·.2))).set j (some (.ref f))) H' fun y H4 => Ex H' H4 ∧ ∃ T, y = .ref T ∧ H4 T = some (.tup (g t)))
    (hq : ∀ D ys H', H D = none → Ex H H' → H' D = some (.lst ys) → ys.length = fs.length → (∀ t, t < fs.length → ∃ T, ys[t]? = some (.ref T) ∧ H' T = some (.tup (g t))) → Q (.ref D) H')
    (hd : (y == ("__debug__" : Str)) = false := by decide) (hcd : (y == ("__classdict__" : Str)) = false := by decide) :
    zE X (.ListComp (.Call (.Name "_law_refused" p) [.Name x py] [] pos2) [⟨.Name x px, .Name y p3, [], 0⟩] scope pos) σ H Q := by
  refine e_lcO C hb h1 h2 hw (i_list (e_name nl hs ?_ hd hcd))
  refine ⟨l, rfl, ⟨_, SqL.of hl⟩, _, _, _, g, walk_list l (fs.map V.ref), by rw [List.length_map]; omega, fun H' e => SqL.of (e _ _ hl), fun t v H' ht e1 hv X1 C1 O1 => ?_, fun D ys H' nD e1 hD hy hz => hq D ys H' nD e1 hD (by rw [hy, List.length_map]) (by rw [List.length_map] at hz; exact hz)⟩
  rw [List.getElem?_map] at hv
  cases hf : fs[t]? with
  | none => rw [hf] at hv; cases hv
  | some f =>
    rw [hf] at hv
    obtain rfl : V.ref f = v := Option.some.inj hv
    exact he t f H' X1 hf e1 C1 O1
/-- what was told, as data -/
theorem dp_told {H : Hp} {ys : List V} {g : Nat → List V} : ∀ (n : Nat) {ds : List PyData}, ys.length = n → (∀ t, t < n → ∃ T, ys[t]? = some (.ref T) ∧ H T = some (.tup (g t))) → ds.length = n → (∀ t, t < n → ∃ es, ds[t]? = some (.tuple es) ∧ DpAll K H (g t) es) → DpAll K H ys ds := by
  induction ys generalizing g with
  | nil => intro n ds e _ e2 _; cases ds with
    | nil => exact .nil
    | cons _ _ => rw [List.length_nil] at e; rw [← e] at e2; cases e2
  | cons y r ih => intro n ds e h e2 h2; cases ds with
    | nil => rw [List.length_cons] at e; rw [List.length_nil] at e2; omega
    | cons d ds =>
      rw [List.length_cons] at e e2
      obtain ⟨T, e3, hT⟩ := h 0 (by omega)
      obtain ⟨es, e4, hes⟩ := h2 0 (by omega)
      obtain rfl : y = V.ref T := Option.some.inj e3
      obtain rfl : d = .tuple es := Option.some.inj e4
      exact .cons (.tup (SqT.of hT) hes) (ih (g := fun t => g (t + 1)) r.length rfl (fun t ht => h (t + 1) (by omega)) (by omega) fun t ht => h2 (t + 1) (by omega))
end
theorem sh_told {a : Str} (h : PyData.strOk a = true) (i : Int) (n : Nat) (hn : n ≤ 5) : SeqAt.shaped (.list (List.replicate n (.tuple [.str a, .int i]))) = true := by
  match n, hn with
  | 0, _ | 1, _ | 2, _ | 3, _ | 4, _ | 5, _ => simp [h, List.replicate, SeqAt.shaped, PyData.canLay0, PyData.canLayAll0, PyData.depth, PyData.depthAll]
theorem eqv_self {d : PyData} (h : SeqAt.shaped d = true) : PyData.eqv d d = true := SeqAt.eqv_refl d (SeqAt.canLay_of_shaped h)
theorem flat_rep {α : Type} (n : Nat) (x : α) : (List.replicate n [x]).flatten = List.replicate n x := by
  induction n with
  | zero => rfl
  | succ n ih => rw [List.replicate_succ, List.flatten_cons, ih]; rfl

/-! sameness of lists and tuples, item by item -/
inductive SameL (H : Hp) (n : Nat) : List V → List V → Prop
  | nil : SameL H n [] []
  | cons {x y : V} {xs ys : List V} : Same H n x y → SameL H n xs ys → SameL H n (x :: xs) (y :: ys)
theorem SameL.len {H : Hp} {n : Nat} : ∀ {xs ys : List V}, SameL H n xs ys → xs.length = ys.length
  | _, _, .nil => rfl
  | _, _, .cons _ t => by rw [List.length_cons, List.length_cons, t.len]
theorem SameL.get {H : Hp} {n : Nat} : ∀ {xs ys : List V}, SameL H n xs ys → ∀ (i : Nat) (v u : V), xs[i]? = some v → ys[i]? = some u → Same H n v u
  | _, _, .nil, _, _, _, h, _ => by cases h
  | _, _, .cons h t, 0, v, u, h1, h2 => by cases h1; cases h2; exact h
  | _, _, .cons h t, i + 1, v, u, h1, h2 => t.get i v u (by simpa using h1) (by simpa using h2)
theorem SameL.flat {H : Hp} {n : Nat} : ∀ {xs : List V}, (∀ x ∈ xs, flat4 x = true) → SameL H n xs xs
  | [], _ => .nil
  | x :: xs, h => .cons (Same.flat (h x (List.mem_cons_self ..)) n) (SameL.flat fun y hy => h y (List.mem_cons_of_mem _ hy))
theorem same_l {H : Hp} {n : Nat} {a b : Addr} {vs ws : List V} (ha : H a = some (.lst vs)) (hb : H b = some (.lst ws)) (h : SameL H n vs ws) (hl : vs.length ≤ 100000) : Same H (n + 1) (.ref a) (.ref b) :=
  .inr ⟨a, b, vs, ws, rfl, rfl, .inl ⟨ha, hb⟩, h.len, hl, h.get⟩
theorem same_t {H : Hp} {n : Nat} {a b : Addr} {vs ws : List V} (ha : H a = some (.tup vs)) (hb : H b = some (.tup ws)) (h : SameL H n vs ws) (hl : vs.length ≤ 100000) : Same H (n + 1) (.ref a) (.ref b) :=
  .inr ⟨a, b, vs, ws, rfl, rfl, .inr ⟨ha, hb⟩, h.len, hl, h.get⟩
theorem flat_map {α : Type} {xs : List α} {f : α → V} (h : ∀ x, flat4 (f x) = true) : ∀ y ∈ xs.map f, flat4 y = true := fun y hy => by
  obtain ⟨x, _, rfl⟩ := List.mem_map.mp hy
  exact h x

/-! k02: the law -/
abbrev s_law : Stmt := topS 56
abbrev N_law : List Str := ["_law_script", "_law_feed_here", "_law_turn", "_law_letters_here", "_law_tree_here", "_law_other", "_law_at", "_law_kids_here", "_law_one", "_law_above", "_law_end_here", "_law_found", "_law_far", "_law_asks", "_law_ask", "_law_bad", "_law_due"]
abbrev P_law : List Str := ["_law_script"]
theorem sc_law : FnScope N_law P_law (defScope s_law) := ⟨rfl, rfl, rfl, by decide +kernel, rfl, by decide +kernel, by decide +kernel⟩

def spLawT (K : PySem.W.Frag) (T : Addr) : Sp := fun vs H Q _ => ∃ (a : Addr) (ns : List Int), vs = [.ref a] ∧ SqL K H a (ns.map V.int) ∧ ns.length ≤ 1000 ∧ H T = some (.tbl #[]) ∧ ∀ H', Q (.bl true) H'
theorem sub_len_le (z : Str) (i : Nat) : (subS z i).length ≤ z.length := by
  rw [str_len, str_len]
  show (sub (tl z) i).length ≤ _
  unfold sub
  rw [List.length_take, List.length_drop]
  omega
section
variable {P : Program} {w : World} {K : PySem.W.Frag} {mg : Str → Option Value} {base : Heap}
variable {X : Cx} {H : Hp} {nx bk ct : St → Hp → Prop} {rt : VK} {c T CT CN : Addr} {cl : Str → Addr} {a0 fa : Addr} {zt zo : Str} {o2 o3 o6 o7 o9 o10 o11 o12 o13 o15 o16 : Option V}
abbrev LB : List Stmt := forBody (stAt (defBody s_law) 1)
theorem law_p2 (C : Ctx X P w K mg base N_law (defScope s_law) 6) (hfn : ∀ y, X.fn y = true) (L : LamT X c T) (mL : mg "len" = none)
    (cFe : Cal P w K mg base CX0 "_law_feed" 1 1 (spFeed K)) (cD : Cal P w K mg base CX0 "_law_draw" 1 2 spDraw) (cAny : Cal P w K mg base CX0 "_law_any" 2 2 (spAny K)) (cL : Cal P w K mg base CX0 "_law_letters" 3 1 spLetters) (cT : Cal P w K mg base CX0 "_law_tree" 3 3 spTree)
    (cF : Cal P w K mg base CX0 "_law_fault" 2 1 spLFault) (cE : Cal P w K mg base CX0 "_law_end" 2 2 spEnd) (cK : Cal P w K mg base CX0 "_law_kids" 3 2 spKidIx) (cS1 : Cal P w K mg base CX0 "_law_same" 3 2 (spSame 1)) (cS2 : Cal P w K mg base CX0 "_law_same" 4 2 (spSame 2))
    (cCh : Cal P w K mg base (L2.CX P w) "children" 4 1 (spChildren CT)) (cSu : Cal P w K mg base (L2.CX P w) "subtree" 4 2 (spSub CT CN)) (cRe : Cal P w K mg base (L2.CX P w) "replaced" 4 3 (spRep CT CN)) (cAn : Cal P w K mg base (L2.CX P w) "ancestors" 4 2 (spAnc CT CN))
    (gR : Gets P w K mg base "_law_refused" 4 (TRef K cl)) (ctT : Caught K cl CT 0 (some "index")) (ctN : Caught K cl CN 1 (some "given"))
    (hF : Feed H fa) (tb : LamX.TabS H T (X.env.qual ++ "<lambda>")) (htr : Tree (tl zt)) (hto : Tree (tl zo)) (lt : zt.length ≤ 40) (lo : zo.length ≤ 9)
    (h : ∀ (far : Int) p H', ¬ (0 ≤ far ∧ far < zt.length) → LamX.ExtN H H' → Feed H' fa → LamX.TabS H' T (X.env.qual ++ "<lambda>") → zB X (LB.drop 11) nx rt bk ct [some (.ref a0), some (.ref fa), o2, o3, some (.str zt), some (.str zo), o6, o7, none, o9, o10, o11, some (.int far), some (.ref p), none, o15, o16] H') : zB X (LB.drop 8) nx rt bk ct [some (.ref a0), some (.ref fa), o2, o3, some (.str zt), some (.str zo), o6, o7, none, o9, o10, o11, o12, o13, none, o15, o16] H := by
  have n_script : Nm X "_law_script" 0 := C.nm rfl (by decide +kernel)
  have n_feed_here : Nm X "_law_feed_here" 1 := C.nm rfl (by decide +kernel)
  have n_turn : Nm X "_law_turn" 2 := C.nm rfl (by decide +kernel)
  have n_letters_here : Nm X "_law_letters_here" 3 := C.nm rfl (by decide +kernel)
  have n_tree_here : Nm X "_law_tree_here" 4 := C.nm rfl (by decide +kernel)
  have n_other : Nm X "_law_other" 5 := C.nm rfl (by decide +kernel)
  have n_at : Nm X "_law_at" 6 := C.nm rfl (by decide +kernel)
  have n_kids_here : Nm X "_law_kids_here" 7 := C.nm rfl (by decide +kernel)
  have n_above : Nm X "_law_above" 9 := C.nm rfl (by decide +kernel)
  have n_end_here : Nm X "_law_end_here" 10 := C.nm rfl (by decide +kernel)
  have n_found : Nm X "_law_found" 11 := C.nm rfl (by decide +kernel)
  have n_far : Nm X "_law_far" 12 := C.nm rfl (by decide +kernel)
  have n_asks : Nm X "_law_asks" 13 := C.nm rfl (by decide +kernel)
  have n_bad : Nm X "_law_bad" 15 := C.nm rfl (by decide +kernel)
  have n_due : Nm X "_law_due" 16 := C.nm rfl (by decide +kernel)
  have w_feed_here : Ns X "_law_feed_here" 1 := C.ns rfl (by decide +kernel) (.inl (hfn _))
  have w_turn : Ns X "_law_turn" 2 := C.ns rfl (by decide +kernel) (.inl (hfn _))
  have w_letters_here : Ns X "_law_letters_here" 3 := C.ns rfl (by decide +kernel) (.inl (hfn _))
  have w_tree_here : Ns X "_law_tree_here" 4 := C.ns rfl (by decide +kernel) (.inl (hfn _))
  have w_other : Ns X "_law_other" 5 := C.ns rfl (by decide +kernel) (.inl (hfn _))
  have w_at : Ns X "_law_at" 6 := C.ns rfl (by decide +kernel) (.inl (hfn _))
  have w_kids_here : Ns X "_law_kids_here" 7 := C.ns rfl (by decide +kernel) (.inl (hfn _))
  have w_above : Ns X "_law_above" 9 := C.ns rfl (by decide +kernel) (.inl (hfn _))
  have w_end_here : Ns X "_law_end_here" 10 := C.ns rfl (by decide +kernel) (.inl (hfn _))
  have w_found : Ns X "_law_found" 11 := C.ns rfl (by decide +kernel) (.inl (hfn _))
  have w_far : Ns X "_law_far" 12 := C.ns rfl (by decide +kernel) (.inl (hfn _))
  have w_asks : Ns X "_law_asks" 13 := C.ns rfl (by decide +kernel) (.inl (hfn _))
  have w_bad : Ns X "_law_bad" 15 := C.ns rfl (by decide +kernel) (.inl (hfn _))
  have w_due : Ns X "_law_due" 16 := C.ns rfl (by decide +kernel) (.inl (hfn _))
  have lp : 0 < (tl zt).length := List.length_pos_iff.mpr (tree_ne htr)
  have hf0 : fault 1 0 (tl zt) = none := (fault_con _ _ _).mpr htr
  have hfo : fault 1 0 (tl zo) = none := (fault_con _ _ _).mpr hto
  have nf : ∀ {α : Prop} {j : Nat}, fault 1 0 (tl zt) = some j → α := fun h => by rw [hf0] at h; cases h
  have nfo : ∀ {α : Prop} {j : Nat}, fault 1 0 (tl zo) = some j → α := fun h => by rw [hfo] at h; cases h
  refine b_cons ?_
  kpc_turns
  refine n_lst ?_
  kpc_turns
  refine c_lenS (sz_le (by omega)) ?_
  kpc_turns
  refine c_lenS (sz_le (by omega)) ?_
  kpc_turns
  refine c_lenS (sz_le (by omega)) ?_
  kpc_turns
  refine ⟨by show 4 ≤ sizeLine; decide, fun p18 H18 np18 e18 hp18 => ?_⟩
  have hF18 := hF.mono e18
  have tb18 := tb.ext e18
  kpc_turns
  refine any_l hF18 (SqL.of hp18) (by simp) (by show 4 ≤ 100000; decide) fun y hy => ?_
  obtain ⟨far, rfl, hfar⟩ : ∃ far : Int, y = .int far ∧ ¬ (0 ≤ far ∧ far < zt.length) := by
    simp only [List.mem_cons, List.not_mem_nil, or_false] at hy
    have : 0 < zt.length := by rw [str_len]; exact lp
    rcases hy with rfl | rfl | rfl | rfl <;> exact ⟨_, rfl, by omega⟩
  kpc_turns
  refine n_lst ?_
  refine a_cons (e_lamV L tb18 (by decide +kernel) C fun f1 c1 H19 en19 nn19 tb19 nf1 hf1 hc1 => ?_)
  have k1 : LamK _ [] H19 f1 := ⟨hf1, hc1, .inl ⟨rfl, rfl⟩⟩
  refine a_cons (e_lamD L tb19 (by decide +kernel) C fun f2 c2 tp2 H20 en20 nn20 tb20 nf2 hf2 hc2 ht2 => ?_)
  have k2 : LamK _ [.int 0] H20 f2 := ⟨hf2, hc2, .inr ⟨tp2, 0, rfl, ht2, rfl⟩⟩
  refine a_cons (e_lamD L tb20 (by decide +kernel) C fun f3 c3 tp3 H21 en21 nn21 tb21 nf3 hf3 hc3 ht3 => ?_)
  have k3 : LamK _ [.int 0] H21 f3 := ⟨hf3, hc3, .inr ⟨tp3, 0, rfl, ht3, rfl⟩⟩
  refine a_nil ⟨by show 3 ≤ sizeLine; decide, fun p22 H22 np22 e22 hp22 => ?_⟩
  kpc_turns
  have ks1 := ((k1.extN en20).extN en21).ex e22
  have ks2 := (k2.extN en21).ex e22
  have ks3 := k3.ex e22
  have hF22 := (((hF18.extN en19).extN en20).extN en21).mono e22
  have tb22 := tb21.ext e22
  refine e_asks (own := [("_law_ask", 14)]) (j := 14) (i := 13) (g := fun _ => [.str "InvalidNumber", .int far]) (fs := [f1, f2, f3]) C (by decide +kernel) rfl (by decide +kernel) (fun _ => rfl) n_asks rfl hp22 (by show 3 ≤ 100; decide) (fun t f H' X1 hf e23 C1 O1 => ?_) fun D23 ys23 H23 nD23 e23 hD23 hlen23 hys23 => ?_
  · rcases t with _ | _ | _ | t
    · obtain rfl : f1 = f := Option.some.inj hf
      refine lam_out (Nl := ["_law_tree_here", "_law_far"]) (ps := []) (fr := ["_law_tree_here", "_law_far"]) (js := [4, 12]) (q := 1) (fld := "given") C1 O1 gR (by decide) (C1.nm (i := 14) rfl (by decide +kernel)) rfl (ks1.ex e23) (by decide +kernel) (bnd_no rfl rfl) (fun ok => caps_by C ok (by decide +kernel)) ctN (by decide) (fun X2 H0 E' Q' C2 tk e0 ho => ?_) (by decide +kernel)
      have n_0 : Nm X2 "_law_tree_here" 0 := C2.nm rfl (by decide +kernel)
      have n_1 : Nm X2 "_law_far" 1 := C2.nm rfl (by decide +kernel)
      kpc_turns
      exact ⟨zt, far, rfl, by omega, fun _ h => nf h, fun _ _ d H' e hd => ho d H' e hd, fun _ n hn hlt => absurd ⟨by omega, by rw [str_len]; omega⟩ hfar⟩
    · obtain rfl : f2 = f := Option.some.inj hf
      refine lam_out (Nl := ["_law_a", "_law_tree_here", "_law_far", "_law_other"]) (ps := ["_law_a"]) (fr := ["_law_tree_here", "_law_far", "_law_other"]) (js := [4, 12, 5]) (q := 1) (fld := "given") C1 O1 gR (by decide) (C1.nm (i := 14) rfl (by decide +kernel)) rfl (ks2.ex e23) (by decide +kernel) (bnd_one rfl rfl) (fun ok => caps_by C ok (by decide +kernel)) ctN (by decide) (fun X2 H0 E' Q' C2 tk e0 ho => ?_) (by decide +kernel)
      have n_0 : Nm X2 "_law_tree_here" 1 := C2.nm rfl (by decide +kernel)
      have n_1 : Nm X2 "_law_far" 2 := C2.nm rfl (by decide +kernel)
      have n_2 : Nm X2 "_law_other" 3 := C2.nm rfl (by decide +kernel)
      kpc_turns
      exact ⟨zt, zo, far, rfl, by omega, by omega, fun _ h => nf h, fun _ _ h => nfo h, fun _ _ _ d H' e hd => ho d H' e hd, fun _ _ n hn hlt => absurd ⟨by omega, by rw [str_len]; omega⟩ hfar⟩
    · obtain rfl : f3 = f := Option.some.inj hf
      refine lam_out (Nl := ["_law_b", "_law_tree_here", "_law_far"]) (ps := ["_law_b"]) (fr := ["_law_tree_here", "_law_far"]) (js := [4, 12]) (q := 1) (fld := "given") C1 O1 gR (by decide) (C1.nm (i := 14) rfl (by decide +kernel)) rfl (ks3.ex e23) (by decide +kernel) (bnd_one rfl rfl) (fun ok => caps_by C ok (by decide +kernel)) ctN (by decide) (fun X2 H0 E' Q' C2 tk e0 ho => ?_) (by decide +kernel)
      have n_0 : Nm X2 "_law_tree_here" 1 := C2.nm rfl (by decide +kernel)
      have n_1 : Nm X2 "_law_far" 2 := C2.nm rfl (by decide +kernel)
      kpc_turns
      exact ⟨zt, far, rfl, by omega, fun _ h => nf h, fun _ _ d H' e hd => ho d H' e hd, fun _ n hn hlt => absurd ⟨by omega, by rw [str_len]; omega⟩ hfar⟩
    · cases hf
  kpc_turns
  refine n_lst ?_
  kpc_turns
  refine n_tup ?_
  kpc_turns
  refine ⟨by show 2 ≤ sizeLine; decide, fun p24 H24 np24 e24 hp24 => ?_⟩
  kpc_turns
  refine ⟨by show 1 ≤ sizeLine; decide, fun p25 H25 np25 e25 hp25 => ?_⟩
  kpc_turns
  refine o_rep hp25 (by omega) (by show 1 * 3 ≤ sizeLine; decide) fun p26 H26 np26 e26 hp26 => ?_
  have dD : Dp X.K H26 (.ref D23) (.list (List.replicate 3 (.tuple [.str "InvalidNumber", .int far]))) := .lst (SqL.of (e26 _ _ (e25 _ _ (e24 _ _ hD23)))) (dp_told 3 hlen23 (fun t ht => by
    obtain ⟨T1, h1, h2⟩ := hys23 t ht
    exact ⟨T1, h1, e26 _ _ (e25 _ _ (e24 _ _ h2))⟩) rfl fun t ht => ⟨_, by rw [List.getElem?_replicate]; rw [if_pos ht], .cons (.str _) (.cons (.int _) .nil)⟩)
  have dE : Dp X.K H26 (.ref p26) (.list (List.replicate 3 (.tuple [.str "InvalidNumber", .int far]))) := .lst (SqL.of hp26) (.cons (dp_pair (e26 _ _ (e25 _ _ hp24)) (.str _) (.int _)) (.cons (dp_pair (e26 _ _ (e25 _ _ hp24)) (.str _) (.int _)) (.cons (dp_pair (e26 _ _ (e25 _ _ hp24)) (.str _) (.int _)) .nil)))
  have sh3 := sh_told (a := "InvalidNumber") (by decide +kernel) far 3 (by omega)
  refine o_neD C dD dE sh3 sh3 ?_
  rw [eqv_self sh3]
  have e22_26 : Ex H22 H26 := ((e23.trans e24).trans e25).trans e26
  have hF26 := hF22.mono e22_26
  have tb26 := tb22.ext e22_26
  refine ⟨false, rfl, if_cf rfl (b_nil ?_)⟩
  exact h far p22 H26 hfar ((LamX.ExtN.of e18).trans (((en19.trans en20).trans en21).trans ((LamX.ExtN.of e22).trans (.of e22_26)))) hF26 tb26
end

/-! k02: the law, second part -/
section
variable {P : Program} {w : World} {K : PySem.W.Frag} {mg : Str → Option Value} {base : Heap}
variable {X : Cx} {H : Hp} {nx bk ct : St → Hp → Prop} {rt : VK} {c T CT CN : Addr} {cl : Str → Addr} {a0 fa : Addr} {zt zo : Str} {o2 o3 o6 o7 o9 o10 o11 o12 o13 o15 o16 : Option V}
theorem law_p3 (C : Ctx X P w K mg base N_law (defScope s_law) 6) (hfn : ∀ y, X.fn y = true) (L : LamT X c T) (mL : mg "len" = none)
    (cFe : Cal P w K mg base CX0 "_law_feed" 1 1 (spFeed K)) (cD : Cal P w K mg base CX0 "_law_draw" 1 2 spDraw) (cAny : Cal P w K mg base CX0 "_law_any" 2 2 (spAny K)) (cL : Cal P w K mg base CX0 "_law_letters" 3 1 spLetters) (cT : Cal P w K mg base CX0 "_law_tree" 3 3 spTree)
    (cF : Cal P w K mg base CX0 "_law_fault" 2 1 spLFault) (cE : Cal P w K mg base CX0 "_law_end" 2 2 spEnd) (cK : Cal P w K mg base CX0 "_law_kids" 3 2 spKidIx) (cS1 : Cal P w K mg base CX0 "_law_same" 3 2 (spSame 1)) (cS2 : Cal P w K mg base CX0 "_law_same" 4 2 (spSame 2))
    (cCh : Cal P w K mg base (L2.CX P w) "children" 4 1 (spChildren CT)) (cSu : Cal P w K mg base (L2.CX P w) "subtree" 4 2 (spSub CT CN)) (cRe : Cal P w K mg base (L2.CX P w) "replaced" 4 3 (spRep CT CN)) (cAn : Cal P w K mg base (L2.CX P w) "ancestors" 4 2 (spAnc CT CN))
    (gR : Gets P w K mg base "_law_refused" 4 (TRef K cl)) (ctT : Caught K cl CT 0 (some "index")) (ctN : Caught K cl CN 1 (some "given"))
    (hF : Feed H fa) (tb : LamX.TabS H T (X.env.qual ++ "<lambda>")) (htr : Tree (tl zt)) (hto : Tree (tl zo)) (lt : zt.length ≤ 40) (lo : zo.length ≤ 9) {far : Int} (hfar : ¬ (0 ≤ far ∧ far < zt.length))
    (h : ∀ p b d H', LamX.ExtN H H' → LamX.TabS H' T (X.env.qual ++ "<lambda>") → zB X (LB.drop 16) nx rt bk ct [some (.ref a0), some (.ref fa), o2, o3, some (.str zt), some (.str zo), o6, o7, none, o9, o10, o11, some (.int far), p, none, b, d] H') : zB X (LB.drop 11) nx rt bk ct [some (.ref a0), some (.ref fa), o2, o3, some (.str zt), some (.str zo), o6, o7, none, o9, o10, o11, some (.int far), o13, none, o15, o16] H := by
  have n_script : Nm X "_law_script" 0 := C.nm rfl (by decide +kernel)
  have n_feed_here : Nm X "_law_feed_here" 1 := C.nm rfl (by decide +kernel)
  have n_turn : Nm X "_law_turn" 2 := C.nm rfl (by decide +kernel)
  have n_letters_here : Nm X "_law_letters_here" 3 := C.nm rfl (by decide +kernel)
  have n_tree_here : Nm X "_law_tree_here" 4 := C.nm rfl (by decide +kernel)
  have n_other : Nm X "_law_other" 5 := C.nm rfl (by decide +kernel)
  have n_at : Nm X "_law_at" 6 := C.nm rfl (by decide +kernel)
  have n_kids_here : Nm X "_law_kids_here" 7 := C.nm rfl (by decide +kernel)
  have n_above : Nm X "_law_above" 9 := C.nm rfl (by decide +kernel)
  have n_end_here : Nm X "_law_end_here" 10 := C.nm rfl (by decide +kernel)
  have n_found : Nm X "_law_found" 11 := C.nm rfl (by decide +kernel)
  have n_far : Nm X "_law_far" 12 := C.nm rfl (by decide +kernel)
  have n_asks : Nm X "_law_asks" 13 := C.nm rfl (by decide +kernel)
  have n_bad : Nm X "_law_bad" 15 := C.nm rfl (by decide +kernel)
  have n_due : Nm X "_law_due" 16 := C.nm rfl (by decide +kernel)
  have w_feed_here : Ns X "_law_feed_here" 1 := C.ns rfl (by decide +kernel) (.inl (hfn _))
  have w_turn : Ns X "_law_turn" 2 := C.ns rfl (by decide +kernel) (.inl (hfn _))
  have w_letters_here : Ns X "_law_letters_here" 3 := C.ns rfl (by decide +kernel) (.inl (hfn _))
  have w_tree_here : Ns X "_law_tree_here" 4 := C.ns rfl (by decide +kernel) (.inl (hfn _))
  have w_other : Ns X "_law_other" 5 := C.ns rfl (by decide +kernel) (.inl (hfn _))
  have w_at : Ns X "_law_at" 6 := C.ns rfl (by decide +kernel) (.inl (hfn _))
  have w_kids_here : Ns X "_law_kids_here" 7 := C.ns rfl (by decide +kernel) (.inl (hfn _))
  have w_above : Ns X "_law_above" 9 := C.ns rfl (by decide +kernel) (.inl (hfn _))
  have w_end_here : Ns X "_law_end_here" 10 := C.ns rfl (by decide +kernel) (.inl (hfn _))
  have w_found : Ns X "_law_found" 11 := C.ns rfl (by decide +kernel) (.inl (hfn _))
  have w_far : Ns X "_law_far" 12 := C.ns rfl (by decide +kernel) (.inl (hfn _))
  have w_asks : Ns X "_law_asks" 13 := C.ns rfl (by decide +kernel) (.inl (hfn _))
  have w_bad : Ns X "_law_bad" 15 := C.ns rfl (by decide +kernel) (.inl (hfn _))
  have w_due : Ns X "_law_due" 16 := C.ns rfl (by decide +kernel) (.inl (hfn _))
  have lp : 0 < (tl zt).length := List.length_pos_iff.mpr (tree_ne htr)
  have hf0 : fault 1 0 (tl zt) = none := (fault_con _ _ _).mpr htr
  have hfo : fault 1 0 (tl zo) = none := (fault_con _ _ _).mpr hto
  have nf : ∀ {α : Prop} {j : Nat}, fault 1 0 (tl zt) = some j → α := fun h => by rw [hf0] at h; cases h
  have nfo : ∀ {α : Prop} {j : Nat}, fault 1 0 (tl zo) = some j → α := fun h => by rw [hfo] at h; cases h
  refine b_cons ?_
  kpc_turns
  refine n_lst ?_
  kpc_turns
  refine ⟨by show 5 ≤ sizeLine; decide, fun p27 H27 np27 e27 hp27 => ?_⟩
  have hF27 := hF.mono e27
  have tb27 := tb.ext e27
  kpc_turns
  refine any_l hF27 (SqL.of hp27) (by simp) (by show 5 ≤ 100000; decide) fun y hy => ?_
  obtain ⟨bad, rfl, lb, fb, hfb⟩ : ∃ bad : Str, y = .str bad ∧ bad.length ≤ 10 ∧ ∃ fb, fault 1 0 (tl bad) = some fb := by
    simp only [List.mem_cons, List.not_mem_nil, or_false] at hy
    rcases hy with rfl | rfl | rfl | rfl | rfl <;> exact ⟨_, rfl, by decide +kernel, Option.isSome_iff_exists.mp (by decide +kernel)⟩
  kpc_turns
  refine n_tup ?_
  kpc_turns
  refine ⟨bad, rfl, by omega, fun H28 e28 => ?_⟩
  rw [hfb]
  kpc_turns
  refine ⟨by show 2 ≤ sizeLine; decide, fun p29 H29 np29 e29 hp29 => ?_⟩
  have hp29 : H29 p29 = some (.tup [.str "InvalidTree", .int fb]) := hp29
  have tb29 := (tb27.ext e28).ext e29
  have out : ∀ {E' : XK} {H0 : Hp}, Out E' H0 CT "InvalidTree" "index" (.int fb) → ∀ j, fault 1 0 (tl bad) = some j → Out E' H0 CT "InvalidTree" "index" (.int j) := fun ho j hj => by
    obtain rfl : fb = j := Option.some.inj (hfb.symm.trans hj)
    exact ho
  have nb : ∀ {α : Prop}, fault 1 0 (tl bad) = none → α := fun h => by rw [hfb] at h; cases h
  kpc_turns
  refine n_lst ?_
  refine a_cons (e_lamV L tb29 (by decide +kernel) C fun f4 c4 H30 en30 nn30 tb30 nf4 hf4 hc4 => ?_)
  have k4 : LamK _ [] H30 f4 := ⟨hf4, hc4, .inl ⟨rfl, rfl⟩⟩
  refine a_cons (e_lamD L tb30 (by decide +kernel) C fun f5 c5 tp5 H31 en31 nn31 tb31 nf5 hf5 hc5 ht5 => ?_)
  have k5 : LamK _ [.int 0] H31 f5 := ⟨hf5, hc5, .inr ⟨tp5, 0, rfl, ht5, rfl⟩⟩
  refine a_cons (e_lamD L tb31 (by decide +kernel) C fun f6 c6 tp6 H32 en32 nn32 tb32 nf6 hf6 hc6 ht6 => ?_)
  have k6 : LamK _ [.int 0] H32 f6 := ⟨hf6, hc6, .inr ⟨tp6, 0, rfl, ht6, rfl⟩⟩
  refine a_nil ⟨by show 3 ≤ sizeLine; decide, fun p33 H33 np33 e33 hp33 => ?_⟩
  kpc_turns
  refine n_lst ?_
  refine a_cons (e_lamV L (tb32.ext e33) (by decide +kernel) C fun f7 c7 H34 en34 nn34 tb34 nf7 hf7 hc7 => ?_)
  have k7 : LamK _ [] H34 f7 := ⟨hf7, hc7, .inl ⟨rfl, rfl⟩⟩
  refine a_cons (e_lamD L tb34 (by decide +kernel) C fun f8 c8 tp8 H35 en35 nn35 tb35 nf8 hf8 hc8 ht8 => ?_)
  have k8 : LamK _ [.int 0] H35 f8 := ⟨hf8, hc8, .inr ⟨tp8, 0, rfl, ht8, rfl⟩⟩
  refine a_nil ⟨by show 2 ≤ sizeLine; decide, fun p36 H36 np36 e36 hp36 => ?_⟩
  have x35 : LamX.ExtN H33 H36 := (en34.trans en35).trans (.of e36)
  have x33 : LamX.ExtN H29 H33 := ((en30.trans en31).trans en32).trans (.of e33)
  refine o_addL (x35 _ _ hp33 (fun _ z => by cases z)) hp36 (by show 3 + 2 ≤ sizeLine; decide) fun p37 H37 np37 e37 hp37 => ?_
  have x29 : LamX.ExtN H29 H37 := (x33.trans x35).trans (.of e37)
  have tb37 := (tb35.ext e36).ext e37
  have z34 : LamX.ExtN H34 H37 := (en35.trans (.of e36)).trans (.of e37)
  have z32 : LamX.ExtN H32 H37 := ((LamX.ExtN.of e33).trans en34).trans z34
  have z35 : LamX.ExtN H35 H37 := (LamX.ExtN.of e36).trans (.of e37)
  have ks4 := ((k4.extN en31).extN en32).extN z32
  have ks5 := (k5.extN en32).extN z32
  have ks6 := k6.extN z32
  have ks7 := k7.extN z34
  have ks8 := k8.extN z35
  kpc_turns
  refine e_asks (own := [("_law_ask", 14)]) (j := 14) (i := 13) (g := fun _ => [.str "InvalidTree", .int fb]) (fs := [f4, f5, f6, f7, f8]) C (by decide +kernel) rfl (by decide +kernel) (fun _ => rfl) n_asks rfl hp37 (by show 5 ≤ 100; decide) (fun t f H' X1 hf e38 C1 O1 => ?_) fun D38 ys38 H38 nD38 e38 hD38 hlen38 hys38 => ?_
  · rcases t with _ | _ | _ | _ | _ | t
    · obtain rfl : f4 = f := Option.some.inj hf
      refine lam_out (Nl := ["_law_bad"]) (ps := []) (fr := ["_law_bad"]) (js := [15]) (q := 0) (fld := "index") C1 O1 gR (by decide) (C1.nm (i := 14) rfl (by decide +kernel)) rfl (ks4.ex e38) (by decide +kernel) (bnd_no rfl rfl) (fun ok => caps_by C ok (by decide +kernel)) ctT (by decide) (fun X2 H0 E' Q' C2 tk e0 ho => ?_) (by decide +kernel)
      have n_0 : Nm X2 "_law_bad" 0 := C2.nm rfl (by decide +kernel)
      kpc_turns
      exact ⟨bad, rfl, by omega, out ho, fun h => nb h⟩
    · obtain rfl : f5 = f := Option.some.inj hf
      refine lam_out (Nl := ["_law_a", "_law_bad", "_law_far"]) (ps := ["_law_a"]) (fr := ["_law_bad", "_law_far"]) (js := [15, 12]) (q := 0) (fld := "index") C1 O1 gR (by decide) (C1.nm (i := 14) rfl (by decide +kernel)) rfl (ks5.ex e38) (by decide +kernel) (bnd_one rfl rfl) (fun ok => caps_by C ok (by decide +kernel)) ctT (by decide) (fun X2 H0 E' Q' C2 tk e0 ho => ?_) (by decide +kernel)
      have n_0 : Nm X2 "_law_bad" 1 := C2.nm rfl (by decide +kernel)
      have n_1 : Nm X2 "_law_far" 2 := C2.nm rfl (by decide +kernel)
      kpc_turns
      exact ⟨bad, far, rfl, by omega, out ho, fun h => nb h, fun h => nb h⟩
    · obtain rfl : f6 = f := Option.some.inj hf
      refine lam_out (Nl := ["_law_b", "_law_bad", "_law_far", "_law_other"]) (ps := ["_law_b"]) (fr := ["_law_bad", "_law_far", "_law_other"]) (js := [15, 12, 5]) (q := 0) (fld := "index") C1 O1 gR (by decide) (C1.nm (i := 14) rfl (by decide +kernel)) rfl (ks6.ex e38) (by decide +kernel) (bnd_one rfl rfl) (fun ok => caps_by C ok (by decide +kernel)) ctT (by decide) (fun X2 H0 E' Q' C2 tk e0 ho => ?_) (by decide +kernel)
      have n_0 : Nm X2 "_law_bad" 1 := C2.nm rfl (by decide +kernel)
      have n_1 : Nm X2 "_law_far" 2 := C2.nm rfl (by decide +kernel)
      have n_2 : Nm X2 "_law_other" 3 := C2.nm rfl (by decide +kernel)
      kpc_turns
      exact ⟨bad, zo, far, rfl, by omega, by omega, out ho, fun h => nb h, fun h => nb h, fun h => nb h⟩
    · obtain rfl : f7 = f := Option.some.inj hf
      refine lam_out (Nl := ["_law_tree_here", "_law_far", "_law_bad"]) (ps := []) (fr := ["_law_tree_here", "_law_far", "_law_bad"]) (js := [4, 12, 15]) (q := 0) (fld := "index") C1 O1 gR (by decide) (C1.nm (i := 14) rfl (by decide +kernel)) rfl (ks7.ex e38) (by decide +kernel) (bnd_no rfl rfl) (fun ok => caps_by C ok (by decide +kernel)) ctT (by decide) (fun X2 H0 E' Q' C2 tk e0 ho => ?_) (by decide +kernel)
      have n_0 : Nm X2 "_law_tree_here" 0 := C2.nm rfl (by decide +kernel)
      have n_1 : Nm X2 "_law_far" 1 := C2.nm rfl (by decide +kernel)
      have n_2 : Nm X2 "_law_bad" 2 := C2.nm rfl (by decide +kernel)
      kpc_turns
      exact ⟨zt, bad, far, rfl, by omega, by omega, fun _ h => nf h, fun _ => out ho, fun _ h => nb h, fun _ h => nb h⟩
    · obtain rfl : f8 = f := Option.some.inj hf
      refine lam_out (Nl := ["_law_a", "_law_bad", "_law_far"]) (ps := ["_law_a"]) (fr := ["_law_bad", "_law_far"]) (js := [15, 12]) (q := 0) (fld := "index") C1 O1 gR (by decide) (C1.nm (i := 14) rfl (by decide +kernel)) rfl (ks8.ex e38) (by decide +kernel) (bnd_one rfl rfl) (fun ok => caps_by C ok (by decide +kernel)) ctT (by decide) (fun X2 H0 E' Q' C2 tk e0 ho => ?_) (by decide +kernel)
      have n_0 : Nm X2 "_law_bad" 1 := C2.nm rfl (by decide +kernel)
      have n_1 : Nm X2 "_law_far" 2 := C2.nm rfl (by decide +kernel)
      kpc_turns
      exact ⟨bad, far, rfl, by omega, out ho, fun h => nb h, fun h => nb h⟩
    · cases hf
  kpc_turns
  refine n_lst ?_
  kpc_turns
  refine ⟨by show 1 ≤ sizeLine; decide, fun p39 H39 np39 e39 hp39 => ?_⟩
  kpc_turns
  refine o_rep hp39 (by omega) (by show 1 * 5 ≤ sizeLine; decide) fun p40 H40 np40 e40 hp40 => ?_
  have hp29' : H40 p29 = some (.tup [.str "InvalidTree", .int fb]) := e40 _ _ (e39 _ _ (e38 _ _ (x29 _ _ hp29 (fun _ z => by cases z))))
  have dp : Dp X.K H40 (.ref p29) (.tuple [.str "InvalidTree", .int fb]) := dp_pair hp29' (.str _) (.int _)
  have dD : Dp X.K H40 (.ref D38) (.list (List.replicate 5 (.tuple [.str "InvalidTree", .int fb]))) := .lst (SqL.of (e40 _ _ (e39 _ _ hD38))) (dp_told 5 hlen38 (fun t ht => by
    obtain ⟨T1, h1, h2⟩ := hys38 t ht
    exact ⟨T1, h1, e40 _ _ (e39 _ _ h2)⟩) rfl fun t ht => ⟨_, by rw [List.getElem?_replicate]; rw [if_pos ht], .cons (.str _) (.cons (.int _) .nil)⟩)
  have dE : Dp X.K H40 (.ref p40) (.list (List.replicate 5 (.tuple [.str "InvalidTree", .int fb]))) := .lst (SqL.of hp40) (.cons dp (.cons dp (.cons dp (.cons dp (.cons dp .nil)))))
  have sh5 := sh_told (a := "InvalidTree") (by decide +kernel) fb 5 (by omega)
  refine o_neD C dD dE sh5 sh5 ?_
  rw [eqv_self sh5]
  have e37_40 : Ex H37 H40 := (e38.trans e39).trans e40
  have tb40 := tb37.ext e37_40
  refine ⟨false, rfl, if_cf rfl (b_nil ?_)⟩
  exact h (some (.ref p37)) (some (.str bad)) (some (.ref p29)) H40 (((LamX.ExtN.of e27).trans (.of e28)).trans ((LamX.ExtN.of e29).trans (x29.trans (.of e37_40)))) tb40
end

/-! k02: the law, whole -/
section
variable {P : Program} {w : World} {K : PySem.W.Frag} {mg : Str → Option Value} {base : Heap}
theorem ok_law {f : Addr} {fd : FuncData} {c T CT CN : Addr} {cl : Str → Addr} (F : FnP K "law" s_law f fd) (hcode : fd.code = .ref c) (tb : LamX.TabB base mg c T) (mR : mg "range" = none) (mL : mg "len" = none)
    (cFe : Cal P w K mg base CX0 "_law_feed" 1 1 (spFeed K)) (cD : Cal P w K mg base CX0 "_law_draw" 1 2 spDraw) (cAny : Cal P w K mg base CX0 "_law_any" 2 2 (spAny K)) (cL : Cal P w K mg base CX0 "_law_letters" 3 1 spLetters) (cT : Cal P w K mg base CX0 "_law_tree" 3 3 spTree)
    (cF : Cal P w K mg base CX0 "_law_fault" 2 1 spLFault) (cE : Cal P w K mg base CX0 "_law_end" 2 2 spEnd) (cK : Cal P w K mg base CX0 "_law_kids" 3 2 spKidIx) (cS1 : Cal P w K mg base CX0 "_law_same" 3 2 (spSame 1)) (cS2 : Cal P w K mg base CX0 "_law_same" 4 2 (spSame 2))
    (cCh : Cal P w K mg base (L2.CX P w) "children" 4 1 (spChildren CT)) (cSu : Cal P w K mg base (L2.CX P w) "subtree" 4 2 (spSub CT CN)) (cRe : Cal P w K mg base (L2.CX P w) "replaced" 4 3 (spRep CT CN)) (cAn : Cal P w K mg base (L2.CX P w) "ancestors" 4 2 (spAnc CT CN))
    (gR : Gets P w K mg base "_law_refused" 4 (TRef K cl)) (ctT : Caught K cl CT 0 (some "index")) (ctN : Caught K cl CN 1 (some "given")) : FnOk P w K mg base CX0 7 f fd P_law (spLawT K T) := by
  refine fn_okC F sc_law (fun vs H Q E ⟨c, _, h, _⟩ => by rw [h]; rfl) fun X vs H Q E C hfn hcd hql ⟨a0, ns, hv, hs, hn, hT0, hq⟩ => ?_
  subst hv
  have L : LamT X c T := ⟨by rw [C.bas, C.mgl]; exact tb, by rw [hcd, hcode]⟩
  have tb0 : LamX.TabS H T (X.env.qual ++ "<lambda>") := LamX.TabS.nil hT0
  have n_script : Nm X "_law_script" 0 := C.nm rfl (by decide +kernel)
  have n_feed_here : Nm X "_law_feed_here" 1 := C.nm rfl (by decide +kernel)
  have n_turn : Nm X "_law_turn" 2 := C.nm rfl (by decide +kernel)
  have n_letters_here : Nm X "_law_letters_here" 3 := C.nm rfl (by decide +kernel)
  have n_tree_here : Nm X "_law_tree_here" 4 := C.nm rfl (by decide +kernel)
  have n_other : Nm X "_law_other" 5 := C.nm rfl (by decide +kernel)
  have n_at : Nm X "_law_at" 6 := C.nm rfl (by decide +kernel)
  have n_kids_here : Nm X "_law_kids_here" 7 := C.nm rfl (by decide +kernel)
  have n_above : Nm X "_law_above" 9 := C.nm rfl (by decide +kernel)
  have n_end_here : Nm X "_law_end_here" 10 := C.nm rfl (by decide +kernel)
  have n_found : Nm X "_law_found" 11 := C.nm rfl (by decide +kernel)
  have n_far : Nm X "_law_far" 12 := C.nm rfl (by decide +kernel)
  have n_asks : Nm X "_law_asks" 13 := C.nm rfl (by decide +kernel)
  have n_bad : Nm X "_law_bad" 15 := C.nm rfl (by decide +kernel)
  have n_due : Nm X "_law_due" 16 := C.nm rfl (by decide +kernel)
  have w_feed_here : Ns X "_law_feed_here" 1 := C.ns rfl (by decide +kernel) (.inl (hfn _))
  have w_turn : Ns X "_law_turn" 2 := C.ns rfl (by decide +kernel) (.inl (hfn _))
  have w_letters_here : Ns X "_law_letters_here" 3 := C.ns rfl (by decide +kernel) (.inl (hfn _))
  have w_tree_here : Ns X "_law_tree_here" 4 := C.ns rfl (by decide +kernel) (.inl (hfn _))
  have w_other : Ns X "_law_other" 5 := C.ns rfl (by decide +kernel) (.inl (hfn _))
  have w_at : Ns X "_law_at" 6 := C.ns rfl (by decide +kernel) (.inl (hfn _))
  have w_kids_here : Ns X "_law_kids_here" 7 := C.ns rfl (by decide +kernel) (.inl (hfn _))
  have w_above : Ns X "_law_above" 9 := C.ns rfl (by decide +kernel) (.inl (hfn _))
  have w_end_here : Ns X "_law_end_here" 10 := C.ns rfl (by decide +kernel) (.inl (hfn _))
  have w_found : Ns X "_law_found" 11 := C.ns rfl (by decide +kernel) (.inl (hfn _))
  have w_far : Ns X "_law_far" 12 := C.ns rfl (by decide +kernel) (.inl (hfn _))
  have w_asks : Ns X "_law_asks" 13 := C.ns rfl (by decide +kernel) (.inl (hfn _))
  have w_bad : Ns X "_law_bad" 15 := C.ns rfl (by decide +kernel) (.inl (hfn _))
  have w_due : Ns X "_law_due" 16 := C.ns rfl (by decide +kernel) (.inl (hfn _))
  refine b_cons ?_
  kpc_turns
  refine ⟨a0, ns, rfl, hs, hn, fun fa H1 hF e1 => ?_⟩
  have tb1 := tb0.ext e1
  kpc_turns
  refine s_for C (i_range1 (C.gl (by decide +kernel)) (by rw [C.mgl]; exact mR) ?_)
  kpc_turns
  refine ⟨by omega, by omega, _, _, _, fun i σ H' => ∃ o2 o3 o4 o5 o6 o7 o9 o10 o11 o12 o13 o15 o16, σ = [some (.ref a0), some (.ref fa), o2, o3, o4, o5, o6, o7, none, o9, o10, o11, o12, o13, none, o15, o16] ∧ Feed H' fa ∧ LamX.TabS H' T (X.env.qual ++ "<lambda>"), walk_range 0 _, ⟨_, _, _, _, _, _, _, _, _, _, _, _, _, rfl, hF, tb1⟩, fun _ _ _ _ _ => trivial, ?_, ?_⟩
  · rintro i x σ H2 H3 hi ⟨o2, o3, o4, o5, o6, o7, o9, o10, o11, o12, o13, o15, o16, rfl, hF2, tb2⟩ e3 rfl
    have hF3 := hF2.mono e3
    have tb3 := tb2.ext e3
    kpc_turns
    refine ⟨fa, rfl, hF3, fun zl H4 hzl e4 => ?_⟩
    have hF4 := hF3.mono e4
    have tb4 := tb3.ext e4
    kpc_turns
    refine draw_to hF4 (by omega) (by omega) fun d1 hd1 => ?_
    kpc_turns
    refine ⟨fa, zl, _, rfl, hF4, hzl, by omega, by omega, fun zt H5 htr hlen hin e5 => ?_⟩
    have hF5 := hF4.mono e5
    have tb5 := tb4.ext e5
    have lt : zt.length ≤ 40 := by rw [str_len]; omega
    have lp : 0 < (tl zt).length := List.length_pos_iff.mpr (tree_ne htr)
    kpc_turns
    refine ⟨fa, zl, _, rfl, hF5, hzl, by omega, by omega, fun zo H6 hto hleno hino e6 => ?_⟩
    have hF6 := hF5.mono e6
    have tb6 := tb5.ext e6
    have lo : zo.length ≤ 9 := by rw [str_len]; omega
    kpc_turns
    refine ⟨by show 2 ≤ sizeLine; decide, rfl, fun H7 e7 => ?_⟩
    have hF7 := hF6.mono e7
    have tb7 := tb6.ext e7
    kpc_turns
    refine c_lenS (sz_le (by omega)) ?_
    kpc_turns
    refine draw_to hF7 (by rw [str_len]; omega) (by omega) fun at_ hat => ?_
    rw [str_len] at hat
    have hat' : at_ < (tl zt).length := by omega
    kpc_turns
    have hk0 : ∃ c0, (tl zt)[0]? = some c0 := ⟨_, List.getElem?_eq_getElem lp⟩
    obtain ⟨c0, hc0⟩ := hk0
    have har : ar c0 ≤ 2 := by unfold ar; split <;> (try split) <;> omega
    have hkc : con (ar c0) ((tl zt).drop 1) = some 0 := by
      have hcc : (tl zt)[0] = c0 := (List.getElem?_eq_some_iff.mp hc0).2
      have h2 : con 1 ((tl zt).drop 0) = some 0 := htr
      rw [List.drop_eq_getElem_cons lp, hcc] at h2
      obtain ⟨u, e, _, h3⟩ := con_cons h2
      have : u = 0 := by omega
      subst this
      simpa using h3
    refine s_lc (own := [("_law_one", 8)]) (i := 7) C (by decide +kernel) rfl (by decide +kernel) rfl rfl (by decide +kernel) (i_list ?_)
    kpc_turns
    refine ⟨zt, 0, c0, rfl, by omega, htr, hc0, fun l8 H8 nl8 e8 hl8 => ⟨l8, rfl, ⟨_, SqL.of hl8⟩, _, _, _, _, walk_list l8 _, comp_map (j := 8) C (fun i => .str (subS zt ((kids (tl zt) (ar c0) 1).getD i 0))) (by rw [List.length_map, kids_len]; omega) (fun H' e => ex_l e (SqL.of hl8)) rfl (by decide +kernel) (fun _ => rfl) ?_, ?_⟩⟩
    · intro i v H' hi e3 hy X1 C1
      obtain ⟨a, ha, rfl⟩ : ∃ a, (kids (tl zt) (ar c0) 1)[i]? = some a ∧ v = .int (a : Nat) := by
        have hy : ((kids (tl zt) (ar c0) (0 + 1)).map fun (n : Nat) => V.int n)[i]? = some v := hy
        rw [List.getElem?_map, Option.map_eq_some_iff] at hy
        obtain ⟨a, h1, h2⟩ := hy
        exact ⟨a, h1, h2.symm⟩
      have hlt := kids_lt (ar c0) 1 hkc a (List.mem_of_getElem? ha)
      obtain ⟨v2, hp1, hp2⟩ := tree_at htr hlt
      have n_tree_here : Nm X1 "_law_tree_here" 4 := C1.nm rfl (by decide +kernel)
      have n_one : Nm X1 "_law_one" 8 := C1.nm rfl (by decide +kernel)
      have w_one : Ns X1 "_law_one" 8 := C1.ns rfl (by decide +kernel) (.inr (by decide +kernel))
      kpc_turns
      refine ⟨zt, a, v2, rfl, by omega, by omega, by rw [Nat.add_comm]; exact hp2, ?_⟩
      kpc_turns
      refine s_sl (sz_le (by omega)) ?_
      rw [cut_sub zt a (by omega)]
      refine ⟨Evl.Ex.refl _, ?_⟩
      simp [List.getD, ha]
    · intro D9 ys9 H9 nD9 e9 hD9 hy9
      have hy9 : ys9 = (kids (tl zt) (ar c0) 1).map fun i => V.str (subS zt i) := by
        rw [hy9, List.length_map]
        exact map_range_get (kids (tl zt) (ar c0) (0 + 1)) 0 fun i => V.str (subS zt i)
      subst hy9
      have hF9 := (hF7.mono e8).mono e9
      have tb9 := (tb7.ext e8).ext e9
      kpc_turns
      refine s_lc (own := [("_law_one", 8)]) (i := 9) C (by decide +kernel) rfl (by decide +kernel) rfl rfl (by decide +kernel) (i_range1 (C.gl (by decide +kernel)) (by rw [C.mgl]; exact mR) ?_)
      kpc_turns
      refine ⟨by omega, by omega, _, _, _, _, walk_range 0 _, comp_filter (j := 8) C (fun i => decide (at_ < endo (tl zt) i)) (fun i => .int (i : Nat)) (by omega) (fun _ _ => trivial) rfl (by decide +kernel) (fun _ => rfl) ?_ ?_, ?_⟩
      · rintro i v H' hi e2 hv X1 C1
        have hv : v = .int (i : Nat) := by rw [hv, Int.zero_add]
        subst hv
        obtain ⟨v2, hp1, hp2⟩ := tree_at htr (i := i) (by omega)
        have n_tree_here : Nm X1 "_law_tree_here" 4 := C1.nm rfl (by decide +kernel)
        have n_at : Nm X1 "_law_at" 6 := C1.nm rfl (by decide +kernel)
        have n_one : Nm X1 "_law_one" 8 := C1.nm rfl (by decide +kernel)
        have w_one : Ns X1 "_law_one" 8 := C1.ns rfl (by decide +kernel) (.inr (by decide +kernel))
        kpc_turns
        refine ⟨zt, i, v2, rfl, by omega, by omega, by rw [Nat.add_comm]; exact hp2, ?_⟩
        kpc_turns
        exact ⟨Evl.Ex.refl _, dec_cg (by omega)⟩
      · rintro i v H' hi e2 hv H3 e3 hb X1 C1
        have hv : v = .int (i : Nat) := by rw [hv, Int.zero_add]
        subst hv
        have n_tree_here : Nm X1 "_law_tree_here" 4 := C1.nm rfl (by decide +kernel)
        have n_at : Nm X1 "_law_at" 6 := C1.nm rfl (by decide +kernel)
        have n_one : Nm X1 "_law_one" 8 := C1.nm rfl (by decide +kernel)
        have w_one : Ns X1 "_law_one" 8 := C1.ns rfl (by decide +kernel) (.inr (by decide +kernel))
        kpc_turns
        exact ⟨Evl.Ex.refl _, rfl⟩
      · intro D10 ys10 H10 nD10 e10 hD10 hy10
        have hy10 : ys10 = (opn (tl zt) at_).map fun (i : Nat) => V.int i := by
          rw [hy10]
          unfold opn
          rfl
        subst hy10
        have hF10 := hF9.mono e10
        have tb10 := tb9.ext e10
        obtain ⟨v3, hp1, hp2⟩ := tree_at htr hat'
        kpc_turns
        refine ⟨zt, at_, v3, rfl, by omega, by omega, by rw [Nat.add_comm]; exact hp2, ?_⟩
        kpc_turns
        refine n_lst ?_
        kpc_turns
        have hf0 : fault 1 0 (tl zt) = none := (fault_con _ _ _).mpr htr
        have hfo : fault 1 0 (tl zo) = none := (fault_con _ _ _).mpr hto
        have nf : ∀ {α : Prop} {j : Nat}, fault 1 0 (tl zt) = some j → α := fun h => by rw [hf0] at h; cases h
        have nfo : ∀ {α : Prop} {j : Nat}, fault 1 0 (tl zo) = some j → α := fun h => by rw [hfo] at h; cases h
        have nin : ∀ {α : Prop}, ¬ (0 ≤ (at_ : Int) ∧ (at_ : Int) < zt.length) → α := fun h => absurd ⟨by omega, by rw [str_len]; omega⟩ h
        refine ⟨zt, rfl, by omega, fun _ h => nf h, fun _ c hc p11 H11 np11 e11 hp11 => ?_⟩
        obtain rfl : c0 = c := by rw [hc0] at hc; exact Option.some.inj hc
        kpc_turns
        refine ⟨zt, at_, rfl, by omega, fun _ h => nf h, fun _ h => nin h, fun _ n hn hlt H12 e12 => ?_⟩
        obtain rfl : at_ = n := by omega
        kpc_turns
        refine ⟨zt, zo, at_, rfl, by omega, by omega, fun _ h => nf h, fun _ _ h => nfo h, fun _ _ h => nin h, fun _ _ n hn hlt H13 e13 => ?_⟩
        obtain rfl : at_ = n := by omega
        kpc_turns
        refine ⟨zt, at_, rfl, by omega, fun _ h => nf h, fun _ h => nin h, fun _ n hn hlt p14 H14 np14 e14 hp14 => ?_⟩
        obtain rfl : at_ = n := by omega
        kpc_turns
        refine ⟨by show 4 ≤ sizeLine; decide, fun p15 H15 np15 e15 hp15 => ?_⟩
        have hx0 : ∀ b o, H10 b = some o → H15 b = some o := fun b o h => e15 _ _ (e14 _ _ (e13 _ _ (e12 _ _ (e11 _ _ h))))
        kpc_turns
        refine n_lst ?_
        kpc_turns
        refine s_sl (sz_le (by omega)) ?_
        rw [cut_sub zt at_ (by omega)]
        kpc_turns
        refine s_sl (sz_le (by omega)) ?_
        kpc_turns
        have lq := takeS_len zt at_
        refine o_addS (sz_le (by omega)) ?_
        kpc_turns
        refine s_sl (sz_le (by omega)) ?_
        have lr := dropS_len zt (endo (tl zt) at_)
        refine o_addS (sz_le (by rw [app_len]; omega)) ?_
        have hrep : cutS zt none (some (at_ : Int)) ++ zo ++ cutS zt (some (endo (tl zt) at_ : Int)) none = mkS (rep (tl zt) at_ (tl zo)) := str_ext (by rw [tl_app, tl_app, cutS_take, cutS_drop]; rfl)
        rw [hrep]
        kpc_turns
        refine ⟨by show 4 ≤ sizeLine; decide, fun p16 H16 np16 e16 hp16 => ?_⟩
        kpc_turns
        have hD9' : H16 D9 = some (.lst ((kids (tl zt) (ar c0) 1).map fun i => .str (subS zt i))) := e16 _ _ (hx0 _ _ (e10 _ _ hD9))
        have hD10' : H16 D10 = some (.lst ((opn (tl zt) at_).map fun (i : Nat) => .int i)) := e16 _ _ (hx0 _ _ hD10)
        have hp11' : H16 p11 = some (.lst ((kids (tl zt) (ar c0) 1).map fun i => .str (subS zt i))) := e16 _ _ (e15 _ _ (e14 _ _ (e13 _ _ (e12 _ _ hp11))))
        have hp14' : H16 p14 = some (.lst ((opn (tl zt) at_).map fun (i : Nat) => .int i)) := e16 _ _ (e15 _ _ hp14)
        have hop : (opn (tl zt) at_).length ≤ 40 := Nat.le_trans (opn_len _ _) (by omega)
        have hkl : (kids (tl zt) (ar c0) 1).length ≤ 2 := by rw [kids_len]; exact har
        have hsk : Same H16 1 (.ref p11) (.ref D9) := same_l hp11' hD9' (SameL.flat (flat_map fun _ => rfl)) (by rw [List.length_map]; omega)
        refine ⟨.ref p15, .ref p16, rfl, same_l (e16 _ _ hp15) hp16 (.cons hsk (.cons (Same.flat rfl 1) (.cons (Same.flat rfl 1) (.cons (same_l hp14' hD10' (SameL.flat (flat_map fun _ => rfl)) (by rw [List.length_map]; omega)) .nil)))) (by show 4 ≤ 100000; decide), fun H17 e17 => ?_⟩
        have e10_17 : Ex H10 H17 := fun b o h => e17 _ _ (e16 _ _ (hx0 _ _ h))
        have hF17 := hF10.mono e10_17
        have tb17 := tb10.ext e10_17
        refine ⟨true, rfl, if_cf rfl (b_nil ?_)⟩
        refine law_p2 C hfn L mL cFe cD cAny cL cT cF cE cK cS1 cS2 cCh cSu cRe cAn gR ctT ctN hF17 tb17 htr hto lt lo fun far p22 H26 hfar x26 hF26 tb26 => ?_
        refine law_p3 C hfn L mL cFe cD cAny cL cT cF cE cK cS1 cS2 cCh cSu cRe cAn gR ctT ctN hF26 tb26 htr hto lt lo hfar fun p37 pb pd H40 x40 tb40 => ?_
        have x10 : LamX.ExtN H10 H40 := (LamX.ExtN.of e10_17).trans (x26.trans x40)
        have x15 : LamX.ExtN H15 H40 := ((LamX.ExtN.of e16).trans (.of e17)).trans (x26.trans x40)
        have hp15f := x15 _ _ hp15 (fun _ z => by cases z)
        have hp11f := x15 _ _ (e15 _ _ (e14 _ _ (e13 _ _ (e12 _ _ hp11)))) (fun _ z => by cases z)
        refine b_cons ?_
        kpc_turns
        refine ⟨p11, _, rfl, hp11f, ?_⟩
        kpc_turns
        refine ⟨_, hp11f, small_lt (by rw [List.length_map, kids_len]; omega), fun H41 x41 h41 => ?_⟩
        have x10' := extN_xb x10 np11 x41
        have tb41 := tabS_xb tb40 hp11f x41
        have hF41 := hF10.extN x10'
        have hD41 := x10' _ _ (e10 _ _ hD9) (fun _ z => by cases z)
        kpc_turns
        refine ⟨zt, rfl, by omega, fun _ h => nf h, fun _ c hc p42 H42 np42 e42 hp42 => ?_⟩
        obtain rfl : c0 = c := by rw [hc0] at hc; exact Option.some.inj hc
        kpc_turns
        refine ⟨.ref p42, .ref D9, rfl, same_l hp42 (e42 _ _ hD41) (SameL.flat (flat_map fun _ => rfl)) (by rw [List.length_map]; omega), fun H43 e43 => ?_⟩
        kpc_turns
        exact ⟨_, _, _, _, _, _, _, _, _, _, _, _, _, rfl, (hF41.mono e42).mono e43, (tb41.ext e42).ext e43⟩
  · rintro σ H2 ⟨o2, o3, o4, o5, o6, o7, o9, o10, o11, o12, o13, o15, o16, rfl, hF2, tb2⟩
    kpc_turns
    exact hq _
end

/-! a second error's class, made -/
abbrev e_InvalidNumber : Stmt := inClass (topS 17) 0
theorem ok_InvalidNumber {P : Program} {w : World} {K : PySem.W.Frag} {mg : Str → Option Value} {base : Heap} {CA f cc cda : Addr} {fd : FuncData} (T : ExI P K CA f cc cda "__init__" "InvalidNumber.__init__" (defArgs e_InvalidNumber) (defBody e_InvalidNumber) (defScope e_InvalidNumber) fd) (mS : mg "super" = none)
    (n1 : PySem.W.findIn K (.ref CA) "given" = some none) (n2 : PySem.W.findIn K (.ref CA) "tag" = some none) : FnOk P w K mg base CX0 1 f fd ["self", "given"] (spExc CA "InvalidNumber" "given") := by
  refine init_ok (N := ["self", "given", "__class__"]) (k := 0) (txt := "a number is out of its range") T (NdefX.nscope_by (by decide +kernel)) mS (by rfl) (fun _ => rfl) (by decide +kernel) (by rfl) (by rfl) (fun vs H Q E ⟨a, y, h, _⟩ => by rw [h]; rfl) (fun vs H Q E ⟨a, y, h, ha, _⟩ => ⟨a, [y], h, ha⟩) ?_
  rintro X vs H Q E C ⟨a, y, rfl, ha, hq⟩
  have m1 : Nm X "self" 0 := C.nm rfl (by decide +kernel)
  have m2 : Nm X "given" 1 := C.nm rfl (by decide +kernel)
  exact exc_body (by rw [C.frg]; exact T.ox) m1 m2 (by rw [C.frg]; exact n1) (by rw [C.frg]; exact n2) ha rfl rfl hq


/-! the head of the law's row; the end -/
def hdF : List He.DefD := [dOf "arity" s_arity, dOf "first_fault" s_first_fault, dOf "check_tree" s_check_tree, dOf "check_index" s_check_index, dOf "end_of" s_end_of, dOf "child_indexes" s_child_indexes, dOf "children" s_children, dOf "subtree" s_subtree, dOf "replaced" s_replaced, dOf "open_nodes" s_open_nodes, dOf "ancestors" s_ancestors, dOf "_law_feed" s_law_feed, dOf "_law_draw" s_law_draw, dOf "_law_any" s_law_any, dOf "_law_arity" s_law_arity, dOf "_law_letters" s_law_letters, dOf "_law_tree" s_law_tree, dOf "_law_whole" s_law_whole, dOf "_law_fault" s_law_fault, dOf "_law_end" s_law_end, dOf "_law_kids" s_law_kids, dOf "_law_same" s_law_same, dOf "_law_refused" s_law_refused, dOf "law" s_law]
def hdA : List He.Fa := [.glo "arity", .glo "first_fault", .glo "check_tree", .glo "check_index", .glo "end_of", .glo "child_indexes", .glo "children", .glo "subtree", .glo "replaced", .glo "open_nodes", .glo "ancestors", .glo "_law_feed", .glo "_law_draw", .glo "_law_any", .glo "_law_arity", .glo "_law_letters", .glo "_law_tree", .glo "_law_whole", .glo "_law_fault", .glo "_law_end", .glo "_law_kids", .glo "_law_same", .glo "_law_refused", .glo "law", .free "len", .free "int", .free "range", .free "enumerate", .free "sorted", .free "isinstance", .free "bool", .free "str", .free "list", .free "tuple", .free "all", .free "zip", .free "super", .str "LEAVES" "abcdefgh", .str "SINGLES" "ijklmnop", .str "LETTERS" "abcdefghijklmnopqrstuvwxyz", .glo "InvalidTree", .glo "InvalidRule", .glo "InvalidMove", .glo "UnknownLetter", .glo "InvalidRow", .glo "InvalidRooms", .glo "InvalidNumber", .glo "TooMany", .glo "TooWide", .glo "TooLong", .glo "CapacityExceeded", .glo "InvalidName", .glo "DuplicateName", .glo "WrongKind", .glo "InUse", .glo "UnknownName", .glo "InvalidContext", .glo "NoLeaf", .glo "NothingLeft", .glo "Unjoined", .glo "UnlikeLetters", .glo "Unlike", .glo "Boundless", .glo "InvalidCommand", .glo "ParseError"]
def hdX : List (PySem.W.Frag → Bool) := [fun K => exiB PySem.Challenge.pw_boughtoll_k02_subtrees K "InvalidTree", fun K => nfB K "InvalidTree" ["index", "tag"], fun K => L2.xfB K (cA K "InvalidTree"), fun K => anyB K "InvalidTree" ["InvalidTree", "InvalidRule", "InvalidMove", "UnknownLetter", "InvalidRow"] true, fun K => exiB PySem.Challenge.pw_boughtoll_k02_subtrees K "InvalidNumber", fun K => nfB K "InvalidNumber" ["given", "tag"], fun K => L2.xfB K (cA K "InvalidNumber"), fun K => anyB K "InvalidNumber" ["InvalidTree", "InvalidRule", "InvalidMove", "UnknownLetter", "InvalidRow"] false, fun K => anyB K "InvalidNumber" ["InvalidRooms", "InvalidNumber"] true]
def hdE (K : PySem.W.Frag) : Bool := hdX.all fun f => f K
def hdI : List (Str × Stmt) := [("InvalidTree", e_InvalidTree), ("InvalidNumber", e_InvalidNumber)]
def hdT : List He.Defn := [("law", none)]
def hdL0 : List Str := ["TollError", "Missing", "InvalidTree", "InvalidContext", "InvalidRooms", "InvalidRule", "InvalidMove", "Unjoined", "NoLeaf", "TooMany", "UnknownLetter", "UnlikeLetters", "TooWide", "TooLong", "Unlike", "Boundless", "InvalidNumber", "InvalidRow", "InvalidName", "DuplicateName", "CapacityExceeded", "WrongKind", "InUse", "InvalidCommand", "ParseError", "UnknownName", "NothingLeft", "LEAVES", "SINGLES", "LETTERS"]
def hdL1 : List Str := ["arity", "first_fault", "check_tree", "check_index", "end_of", "child_indexes", "children", "subtree", "replaced", "open_nodes", "ancestors", "_law_feed", "_law_draw", "_law_any", "_law_whole", "_law_same", "_law_refused", "_law_arity", "_law_fault", "_law_end", "_law_kids", "_law_letters", "_law_tree"]
def hdL : List Str := hdL0 ++ hdL1
abbrev hdR : PySem.W.OpenRow := PySem.W.OpenLaw.row PySem.Challenge.rw_boughtoll_k02_subtrees
abbrev hdK : PySem.W.Hook := hookY 6 hdA hdF hdT hdE hdI
def hdO (s : PySem.W.SharedT) : AlY := obsY 6 hdA hdF hdT hdE hdI (HandSHeadRun.getT s)
theorem hdO_eq (s : PySem.W.SharedT) : hdO s = hdK.obs s.abs := obsY_eq (HandSHeadRun.getT_eq s)
theorem hd_run (w : World) : HandSHeadRun.RunEq hdR (PySem.W.view hdR.prog [56]) hdK hdO 16000 hdL w := by
  intro os
  kernel_rfl

theorem hd_facts {w : World} {K : PySem.W.Frag} {h : Heap} {mg : Str → Option Value} {fa : Addr} (KX : K.In h) (G : h.Ns mainGlobals mg) (hfa : mg ("law" : Str) = some (.ref fa)) (c : SaysY hdA hdF hdT hdE hdI h K) :
    LamX.LawAtS PySem.Challenge.rw_boughtoll_k02_subtrees w K CX0 7 63 "_law_script" mg fa h := by
  obtain ⟨fd_arity, F_arity⟩ := c.d.def_ 0 (d := dOf "arity" s_arity) rfl
  have F_arity : FnP K "arity" s_arity (He.ga K "arity") fd_arity := F_arity
  have gm_arity : mg "arity" = some (.ref (He.ga K "arity")) := He.glo_ok KX G (c.d.fact 0 (f := .glo "arity") rfl)
  obtain ⟨fd_first_fault, F_first_fault⟩ := c.d.def_ 1 (d := dOf "first_fault" s_first_fault) rfl
  have F_first_fault : FnP K "first_fault" s_first_fault (He.ga K "first_fault") fd_first_fault := F_first_fault
  have gm_first_fault : mg "first_fault" = some (.ref (He.ga K "first_fault")) := He.glo_ok KX G (c.d.fact 1 (f := .glo "first_fault") rfl)
  obtain ⟨fd_check_tree, F_check_tree⟩ := c.d.def_ 2 (d := dOf "check_tree" s_check_tree) rfl
  have F_check_tree : FnP K "check_tree" s_check_tree (He.ga K "check_tree") fd_check_tree := F_check_tree
  have gm_check_tree : mg "check_tree" = some (.ref (He.ga K "check_tree")) := He.glo_ok KX G (c.d.fact 2 (f := .glo "check_tree") rfl)
  obtain ⟨fd_check_index, F_check_index⟩ := c.d.def_ 3 (d := dOf "check_index" s_check_index) rfl
  have F_check_index : FnP K "check_index" s_check_index (He.ga K "check_index") fd_check_index := F_check_index
  have gm_check_index : mg "check_index" = some (.ref (He.ga K "check_index")) := He.glo_ok KX G (c.d.fact 3 (f := .glo "check_index") rfl)
  obtain ⟨fd_end_of, F_end_of⟩ := c.d.def_ 4 (d := dOf "end_of" s_end_of) rfl
  have F_end_of : FnP K "end_of" s_end_of (He.ga K "end_of") fd_end_of := F_end_of
  have gm_end_of : mg "end_of" = some (.ref (He.ga K "end_of")) := He.glo_ok KX G (c.d.fact 4 (f := .glo "end_of") rfl)
  obtain ⟨fd_child_indexes, F_child_indexes⟩ := c.d.def_ 5 (d := dOf "child_indexes" s_child_indexes) rfl
  have F_child_indexes : FnP K "child_indexes" s_child_indexes (He.ga K "child_indexes") fd_child_indexes := F_child_indexes
  have gm_child_indexes : mg "child_indexes" = some (.ref (He.ga K "child_indexes")) := He.glo_ok KX G (c.d.fact 5 (f := .glo "child_indexes") rfl)
  obtain ⟨fd_children, F_children⟩ := c.d.def_ 6 (d := dOf "children" s_children) rfl
  have F_children : FnP K "children" s_children (He.ga K "children") fd_children := F_children
  have gm_children : mg "children" = some (.ref (He.ga K "children")) := He.glo_ok KX G (c.d.fact 6 (f := .glo "children") rfl)
  obtain ⟨fd_subtree, F_subtree⟩ := c.d.def_ 7 (d := dOf "subtree" s_subtree) rfl
  have F_subtree : FnP K "subtree" s_subtree (He.ga K "subtree") fd_subtree := F_subtree
  have gm_subtree : mg "subtree" = some (.ref (He.ga K "subtree")) := He.glo_ok KX G (c.d.fact 7 (f := .glo "subtree") rfl)
  obtain ⟨fd_replaced, F_replaced⟩ := c.d.def_ 8 (d := dOf "replaced" s_replaced) rfl
  have F_replaced : FnP K "replaced" s_replaced (He.ga K "replaced") fd_replaced := F_replaced
  have gm_replaced : mg "replaced" = some (.ref (He.ga K "replaced")) := He.glo_ok KX G (c.d.fact 8 (f := .glo "replaced") rfl)
  obtain ⟨fd_open_nodes, F_open_nodes⟩ := c.d.def_ 9 (d := dOf "open_nodes" s_open_nodes) rfl
  have F_open_nodes : FnP K "open_nodes" s_open_nodes (He.ga K "open_nodes") fd_open_nodes := F_open_nodes
  have gm_open_nodes : mg "open_nodes" = some (.ref (He.ga K "open_nodes")) := He.glo_ok KX G (c.d.fact 9 (f := .glo "open_nodes") rfl)
  obtain ⟨fd_ancestors, F_ancestors⟩ := c.d.def_ 10 (d := dOf "ancestors" s_ancestors) rfl
  have F_ancestors : FnP K "ancestors" s_ancestors (He.ga K "ancestors") fd_ancestors := F_ancestors
  have gm_ancestors : mg "ancestors" = some (.ref (He.ga K "ancestors")) := He.glo_ok KX G (c.d.fact 10 (f := .glo "ancestors") rfl)
  obtain ⟨fd_law_feed, F_law_feed⟩ := c.d.def_ 11 (d := dOf "_law_feed" s_law_feed) rfl
  have F_law_feed : FnP K "_law_feed" s_law_feed (He.ga K "_law_feed") fd_law_feed := F_law_feed
  have gm_law_feed : mg "_law_feed" = some (.ref (He.ga K "_law_feed")) := He.glo_ok KX G (c.d.fact 11 (f := .glo "_law_feed") rfl)
  obtain ⟨fd_law_draw, F_law_draw⟩ := c.d.def_ 12 (d := dOf "_law_draw" s_law_draw) rfl
  have F_law_draw : FnP K "_law_draw" s_law_draw (He.ga K "_law_draw") fd_law_draw := F_law_draw
  have gm_law_draw : mg "_law_draw" = some (.ref (He.ga K "_law_draw")) := He.glo_ok KX G (c.d.fact 12 (f := .glo "_law_draw") rfl)
  obtain ⟨fd_law_any, F_law_any⟩ := c.d.def_ 13 (d := dOf "_law_any" s_law_any) rfl
  have F_law_any : FnP K "_law_any" s_law_any (He.ga K "_law_any") fd_law_any := F_law_any
  have gm_law_any : mg "_law_any" = some (.ref (He.ga K "_law_any")) := He.glo_ok KX G (c.d.fact 13 (f := .glo "_law_any") rfl)
  obtain ⟨fd_law_arity, F_law_arity⟩ := c.d.def_ 14 (d := dOf "_law_arity" s_law_arity) rfl
  have F_law_arity : FnP K "_law_arity" s_law_arity (He.ga K "_law_arity") fd_law_arity := F_law_arity
  have gm_law_arity : mg "_law_arity" = some (.ref (He.ga K "_law_arity")) := He.glo_ok KX G (c.d.fact 14 (f := .glo "_law_arity") rfl)
  obtain ⟨fd_law_letters, F_law_letters⟩ := c.d.def_ 15 (d := dOf "_law_letters" s_law_letters) rfl
  have F_law_letters : FnP K "_law_letters" s_law_letters (He.ga K "_law_letters") fd_law_letters := F_law_letters
  have gm_law_letters : mg "_law_letters" = some (.ref (He.ga K "_law_letters")) := He.glo_ok KX G (c.d.fact 15 (f := .glo "_law_letters") rfl)
  obtain ⟨fd_law_tree, F_law_tree⟩ := c.d.def_ 16 (d := dOf "_law_tree" s_law_tree) rfl
  have F_law_tree : FnP K "_law_tree" s_law_tree (He.ga K "_law_tree") fd_law_tree := F_law_tree
  have gm_law_tree : mg "_law_tree" = some (.ref (He.ga K "_law_tree")) := He.glo_ok KX G (c.d.fact 16 (f := .glo "_law_tree") rfl)
  obtain ⟨fd_law_whole, F_law_whole⟩ := c.d.def_ 17 (d := dOf "_law_whole" s_law_whole) rfl
  have F_law_whole : FnP K "_law_whole" s_law_whole (He.ga K "_law_whole") fd_law_whole := F_law_whole
  have gm_law_whole : mg "_law_whole" = some (.ref (He.ga K "_law_whole")) := He.glo_ok KX G (c.d.fact 17 (f := .glo "_law_whole") rfl)
  obtain ⟨fd_law_fault, F_law_fault⟩ := c.d.def_ 18 (d := dOf "_law_fault" s_law_fault) rfl
  have F_law_fault : FnP K "_law_fault" s_law_fault (He.ga K "_law_fault") fd_law_fault := F_law_fault
  have gm_law_fault : mg "_law_fault" = some (.ref (He.ga K "_law_fault")) := He.glo_ok KX G (c.d.fact 18 (f := .glo "_law_fault") rfl)
  obtain ⟨fd_law_end, F_law_end⟩ := c.d.def_ 19 (d := dOf "_law_end" s_law_end) rfl
  have F_law_end : FnP K "_law_end" s_law_end (He.ga K "_law_end") fd_law_end := F_law_end
  have gm_law_end : mg "_law_end" = some (.ref (He.ga K "_law_end")) := He.glo_ok KX G (c.d.fact 19 (f := .glo "_law_end") rfl)
  obtain ⟨fd_law_kids, F_law_kids⟩ := c.d.def_ 20 (d := dOf "_law_kids" s_law_kids) rfl
  have F_law_kids : FnP K "_law_kids" s_law_kids (He.ga K "_law_kids") fd_law_kids := F_law_kids
  have gm_law_kids : mg "_law_kids" = some (.ref (He.ga K "_law_kids")) := He.glo_ok KX G (c.d.fact 20 (f := .glo "_law_kids") rfl)
  obtain ⟨fd_law_same, F_law_same⟩ := c.d.def_ 21 (d := dOf "_law_same" s_law_same) rfl
  have F_law_same : FnP K "_law_same" s_law_same (He.ga K "_law_same") fd_law_same := F_law_same
  have gm_law_same : mg "_law_same" = some (.ref (He.ga K "_law_same")) := He.glo_ok KX G (c.d.fact 21 (f := .glo "_law_same") rfl)
  obtain ⟨fd_law_refused, F_law_refused⟩ := c.d.def_ 22 (d := dOf "_law_refused" s_law_refused) rfl
  have F_law_refused : FnP K "_law_refused" s_law_refused (He.ga K "_law_refused") fd_law_refused := F_law_refused
  have gm_law_refused : mg "_law_refused" = some (.ref (He.ga K "_law_refused")) := He.glo_ok KX G (c.d.fact 22 (f := .glo "_law_refused") rfl)
  obtain ⟨fd_law, F_law⟩ := c.d.def_ 23 (d := dOf "law" s_law) rfl
  have F_law : FnP K "law" s_law (He.ga K "law") fd_law := F_law
  have gm_law : mg "law" = some (.ref (He.ga K "law")) := He.glo_ok KX G (c.d.fact 23 (f := .glo "law") rfl)
  have m_len : mg "len" = none := He.free_ok KX G (c.d.fact 24 (f := .free "len") rfl)
  have m_int : mg "int" = none := He.free_ok KX G (c.d.fact 25 (f := .free "int") rfl)
  have m_range : mg "range" = none := He.free_ok KX G (c.d.fact 26 (f := .free "range") rfl)
  have m_enumerate : mg "enumerate" = none := He.free_ok KX G (c.d.fact 27 (f := .free "enumerate") rfl)
  have m_sorted : mg "sorted" = none := He.free_ok KX G (c.d.fact 28 (f := .free "sorted") rfl)
  have m_isinstance : mg "isinstance" = none := He.free_ok KX G (c.d.fact 29 (f := .free "isinstance") rfl)
  have m_bool : mg "bool" = none := He.free_ok KX G (c.d.fact 30 (f := .free "bool") rfl)
  have m_str : mg "str" = none := He.free_ok KX G (c.d.fact 31 (f := .free "str") rfl)
  have m_list : mg "list" = none := He.free_ok KX G (c.d.fact 32 (f := .free "list") rfl)
  have m_tuple : mg "tuple" = none := He.free_ok KX G (c.d.fact 33 (f := .free "tuple") rfl)
  have m_all : mg "all" = none := He.free_ok KX G (c.d.fact 34 (f := .free "all") rfl)
  have m_zip : mg "zip" = none := He.free_ok KX G (c.d.fact 35 (f := .free "zip") rfl)
  have m_super : mg "super" = none := He.free_ok KX G (c.d.fact 36 (f := .free "super") rfl)
  have g_LEAVES : Gs mg "LEAVES" "abcdefgh" := He.str_ok KX G (c.d.fact 37 (f := .str "LEAVES" "abcdefgh") rfl)
  have g_SINGLES : Gs mg "SINGLES" "ijklmnop" := He.str_ok KX G (c.d.fact 38 (f := .str "SINGLES" "ijklmnop") rfl)
  have g_LETTERS : Gs mg "LETTERS" "abcdefghijklmnopqrstuvwxyz" := He.str_ok KX G (c.d.fact 39 (f := .str "LETTERS" "abcdefghijklmnopqrstuvwxyz") rfl)
  have hE : ∀ (i : Nat) (b : PySem.W.Frag → Bool), hdX[i]? = some b → b K = true := fun i b hb => List.all_eq_true.mp c.more b (List.mem_of_getElem? hb)
  have ge_InvalidTree : mg "InvalidTree" = some (.ref (He.ga K "InvalidTree")) := He.glo_ok KX G (c.d.fact 40 (f := .glo "InvalidTree") rfl)
  have ge_InvalidRule : mg "InvalidRule" = some (.ref (He.ga K "InvalidRule")) := He.glo_ok KX G (c.d.fact 41 (f := .glo "InvalidRule") rfl)
  have ge_InvalidMove : mg "InvalidMove" = some (.ref (He.ga K "InvalidMove")) := He.glo_ok KX G (c.d.fact 42 (f := .glo "InvalidMove") rfl)
  have ge_UnknownLetter : mg "UnknownLetter" = some (.ref (He.ga K "UnknownLetter")) := He.glo_ok KX G (c.d.fact 43 (f := .glo "UnknownLetter") rfl)
  have ge_InvalidRow : mg "InvalidRow" = some (.ref (He.ga K "InvalidRow")) := He.glo_ok KX G (c.d.fact 44 (f := .glo "InvalidRow") rfl)
  have ge_InvalidRooms : mg "InvalidRooms" = some (.ref (He.ga K "InvalidRooms")) := He.glo_ok KX G (c.d.fact 45 (f := .glo "InvalidRooms") rfl)
  have ge_InvalidNumber : mg "InvalidNumber" = some (.ref (He.ga K "InvalidNumber")) := He.glo_ok KX G (c.d.fact 46 (f := .glo "InvalidNumber") rfl)
  have ge_TooMany : mg "TooMany" = some (.ref (He.ga K "TooMany")) := He.glo_ok KX G (c.d.fact 47 (f := .glo "TooMany") rfl)
  have ge_TooWide : mg "TooWide" = some (.ref (He.ga K "TooWide")) := He.glo_ok KX G (c.d.fact 48 (f := .glo "TooWide") rfl)
  have ge_TooLong : mg "TooLong" = some (.ref (He.ga K "TooLong")) := He.glo_ok KX G (c.d.fact 49 (f := .glo "TooLong") rfl)
  have ge_CapacityExceeded : mg "CapacityExceeded" = some (.ref (He.ga K "CapacityExceeded")) := He.glo_ok KX G (c.d.fact 50 (f := .glo "CapacityExceeded") rfl)
  have ge_InvalidName : mg "InvalidName" = some (.ref (He.ga K "InvalidName")) := He.glo_ok KX G (c.d.fact 51 (f := .glo "InvalidName") rfl)
  have ge_DuplicateName : mg "DuplicateName" = some (.ref (He.ga K "DuplicateName")) := He.glo_ok KX G (c.d.fact 52 (f := .glo "DuplicateName") rfl)
  have ge_WrongKind : mg "WrongKind" = some (.ref (He.ga K "WrongKind")) := He.glo_ok KX G (c.d.fact 53 (f := .glo "WrongKind") rfl)
  have ge_InUse : mg "InUse" = some (.ref (He.ga K "InUse")) := He.glo_ok KX G (c.d.fact 54 (f := .glo "InUse") rfl)
  have ge_UnknownName : mg "UnknownName" = some (.ref (He.ga K "UnknownName")) := He.glo_ok KX G (c.d.fact 55 (f := .glo "UnknownName") rfl)
  have ge_InvalidContext : mg "InvalidContext" = some (.ref (He.ga K "InvalidContext")) := He.glo_ok KX G (c.d.fact 56 (f := .glo "InvalidContext") rfl)
  have ge_NoLeaf : mg "NoLeaf" = some (.ref (He.ga K "NoLeaf")) := He.glo_ok KX G (c.d.fact 57 (f := .glo "NoLeaf") rfl)
  have ge_NothingLeft : mg "NothingLeft" = some (.ref (He.ga K "NothingLeft")) := He.glo_ok KX G (c.d.fact 58 (f := .glo "NothingLeft") rfl)
  have ge_Unjoined : mg "Unjoined" = some (.ref (He.ga K "Unjoined")) := He.glo_ok KX G (c.d.fact 59 (f := .glo "Unjoined") rfl)
  have ge_UnlikeLetters : mg "UnlikeLetters" = some (.ref (He.ga K "UnlikeLetters")) := He.glo_ok KX G (c.d.fact 60 (f := .glo "UnlikeLetters") rfl)
  have ge_Unlike : mg "Unlike" = some (.ref (He.ga K "Unlike")) := He.glo_ok KX G (c.d.fact 61 (f := .glo "Unlike") rfl)
  have ge_Boundless : mg "Boundless" = some (.ref (He.ga K "Boundless")) := He.glo_ok KX G (c.d.fact 62 (f := .glo "Boundless") rfl)
  have ge_InvalidCommand : mg "InvalidCommand" = some (.ref (He.ga K "InvalidCommand")) := He.glo_ok KX G (c.d.fact 63 (f := .glo "InvalidCommand") rfl)
  have ge_ParseError : mg "ParseError" = some (.ref (He.ga K "ParseError")) := He.glo_ok KX G (c.d.fact 64 (f := .glo "ParseError") rfl)
  have gE : ∀ x ∈ errNames, mg x = some (.ref (He.ga K x)) := fun x hx => by
    simp only [errNames, List.mem_cons, List.not_mem_nil, or_false] at hx
    rcases hx with rfl | rfl | rfl | rfl | rfl | rfl | rfl | rfl | rfl | rfl | rfl | rfl | rfl | rfl | rfl | rfl | rfl | rfl | rfl | rfl | rfl | rfl | rfl | rfl | rfl
    · exact ge_InvalidTree
    · exact ge_InvalidRule
    · exact ge_InvalidMove
    · exact ge_UnknownLetter
    · exact ge_InvalidRow
    · exact ge_InvalidRooms
    · exact ge_InvalidNumber
    · exact ge_TooMany
    · exact ge_TooWide
    · exact ge_TooLong
    · exact ge_CapacityExceeded
    · exact ge_InvalidName
    · exact ge_DuplicateName
    · exact ge_WrongKind
    · exact ge_InUse
    · exact ge_UnknownName
    · exact ge_InvalidContext
    · exact ge_NoLeaf
    · exact ge_NothingLeft
    · exact ge_Unjoined
    · exact ge_UnlikeLetters
    · exact ge_Unlike
    · exact ge_Boundless
    · exact ge_InvalidCommand
    · exact ge_ParseError
  obtain ⟨cc_InvalidTree, cda_InvalidTree, fdi_InvalidTree, T_InvalidTree, dn_InvalidTree, fi_InvalidTree, ti_InvalidTree⟩ := exiB_ok (P := PySem.Challenge.pw_boughtoll_k02_subtrees) (c.ini ("InvalidTree", e_InvalidTree) (List.mem_of_getElem? (i := 0) rfl)) (hE 0 _ rfl) (by kernel_rfl)
  have n1_InvalidTree : PySem.W.findIn K (.ref (cA K "InvalidTree")) "index" = some none := nfB_ok (hE 1 _ rfl) (by decide)
  have n2_InvalidTree : PySem.W.findIn K (.ref (cA K "InvalidTree")) "tag" = some none := nfB_ok (hE 1 _ rfl) (by decide)
  have ct_InvalidTree : Caught K (He.ga K) (cA K "InvalidTree") 0 (some "index") := ⟨L2.xfB_ok (hE 2 _ rfl), n2_InvalidTree, fun y hy => by cases hy; exact n1_InvalidTree, ⟨_, rfl, rfl, anyB_ok (hE 3 _ rfl)⟩, fun i q hi hq => by
    omega⟩
  obtain ⟨cc_InvalidNumber, cda_InvalidNumber, fdi_InvalidNumber, T_InvalidNumber, dn_InvalidNumber, fi_InvalidNumber, ti_InvalidNumber⟩ := exiB_ok (P := PySem.Challenge.pw_boughtoll_k02_subtrees) (c.ini ("InvalidNumber", e_InvalidNumber) (List.mem_of_getElem? (i := 1) rfl)) (hE 4 _ rfl) (by kernel_rfl)
  have n1_InvalidNumber : PySem.W.findIn K (.ref (cA K "InvalidNumber")) "given" = some none := nfB_ok (hE 5 _ rfl) (by decide)
  have n2_InvalidNumber : PySem.W.findIn K (.ref (cA K "InvalidNumber")) "tag" = some none := nfB_ok (hE 5 _ rfl) (by decide)
  have ct_InvalidNumber : Caught K (He.ga K) (cA K "InvalidNumber") 1 (some "given") := ⟨L2.xfB_ok (hE 6 _ rfl), n2_InvalidNumber, fun y hy => by cases hy; exact n1_InvalidNumber, ⟨_, rfl, rfl, anyB_ok (hE 8 _ rfl)⟩, fun i q hi hq => by
    rcases (show i = 0 by omega) with rfl
    · cases hq; exact anyB_ok (hE 7 _ rfl)⟩
  refine ⟨fd_law, hdT.map (He.cT K), spLawT K (He.cT K ("law", none)).2, fun p hp => ?_, fun p hp => ?_, fun p hp => ?_, fun s v => ?_, fun H a ns hl _ hH hS => ⟨a, ns, rfl, hS, by omega, hH _ (List.mem_singleton.mpr rfl), fun _ => rfl⟩, fun base KB GB ht => ?_⟩
  · obtain ⟨q, hq, rfl⟩ := List.mem_map.mp hp
    exact c.empty q hq
  · obtain ⟨q, hq, rfl⟩ := List.mem_map.mp hp
    exact c.out q hq
  · obtain ⟨q, hq, rfl⟩ := List.mem_map.mp hp
    exact PySem.W.codeHd_of_K KX (c.hd q hq)
  · exact FunD.bindsA (ps := ["_law_script"]) F_law (fun _ _ _ _ _ _ us hl => match us, hl with | [_], _ => rfl) s [v] rfl
  · have e0 := hfa.symm.trans gm_law
    cases e0
    have hcode : fd_law.code = .ref (He.cT K ("law", none)).1 := by
      obtain ⟨oc, od, dV, kV, doc, pm, an, cdv, ct, osl, rfl, lk, hcd, _, _⟩ := F_law.ex
      obtain ⟨cq, rfl⟩ := He.codeIn_ref hcd
      exact congrArg Value.ref (He.codeOf_eq (K := K) (p := ("law", none)) lk rfl).symm
    have x_InvalidTree : ExK PySem.Challenge.pw_boughtoll_k02_subtrees w K mg base "InvalidTree" (cA K "InvalidTree") (fs1 "InvalidTree" "index") := ⟨T_InvalidTree.ox, ge_InvalidTree, _, fdi_InvalidTree, ["self", "index"], fi_InvalidTree, ti_InvalidTree, .all (fun us hl => by
      obtain ⟨dV, kV, doc, pm, an, ct, rfl⟩ := T_InvalidTree.fdE
      have hd : dV = .none := dn_InvalidTree
      subst hd
      match us, hl with | [_, _], _ => rfl), ok_InvalidTree T_InvalidTree m_super n1_InvalidTree n2_InvalidTree⟩
    have x_InvalidNumber : ExK PySem.Challenge.pw_boughtoll_k02_subtrees w K mg base "InvalidNumber" (cA K "InvalidNumber") (fs1 "InvalidNumber" "given") := ⟨T_InvalidNumber.ox, ge_InvalidNumber, _, fdi_InvalidNumber, ["self", "given"], fi_InvalidNumber, ti_InvalidNumber, .all (fun us hl => by
      obtain ⟨dV, kV, doc, pm, an, ct, rfl⟩ := T_InvalidNumber.fdE
      have hd : dV = .none := dn_InvalidNumber
      subst hd
      match us, hl with | [_, _], _ => rfl), ok_InvalidNumber T_InvalidNumber m_super n1_InvalidNumber n2_InvalidNumber⟩
    have c_arity := cal_of (P := PySem.Challenge.pw_boughtoll_k02_subtrees) (w := w) (base := base) (x := "arity") (st := s_arity) F_arity (ok_arity F_arity g_LEAVES g_SINGLES) gm_arity fun _ _ _ _ _ _ us hl => match us, hl with | [_], _ => rfl
    have c_first_fault := cal_of (P := PySem.Challenge.pw_boughtoll_k02_subtrees) (w := w) (base := base) (x := "first_fault") (st := s_first_fault) F_first_fault (ok_fault F_first_fault g_LETTERS m_enumerate m_len c_arity) gm_first_fault fun _ _ _ _ _ _ us hl => match us, hl with | [_], _ => rfl
    have c_check_tree := cal_of (P := PySem.Challenge.pw_boughtoll_k02_subtrees) (w := w) (base := base) (x := "check_tree") (st := s_check_tree) F_check_tree (ok_check_tree F_check_tree x_InvalidTree c_first_fault) gm_check_tree fun _ _ _ _ _ _ us hl => match us, hl with | [_], _ => rfl
    have c_check_index := cal_of (P := PySem.Challenge.pw_boughtoll_k02_subtrees) (w := w) (base := base) (x := "check_index") (st := s_check_index) F_check_index (ok_check_index F_check_index m_len x_InvalidNumber) gm_check_index fun _ _ _ _ _ _ us hl => match us, hl with | [_, _], _ => rfl
    have c_end_of := cal_of (P := PySem.Challenge.pw_boughtoll_k02_subtrees) (w := w) (base := base) (x := "end_of") (st := s_end_of) F_end_of (ok_end_of F_end_of c_arity) gm_end_of fun _ _ _ _ _ _ us hl => match us, hl with | [_, _], _ => rfl
    have c_child_indexes := cal_of (P := PySem.Challenge.pw_boughtoll_k02_subtrees) (w := w) (base := base) (x := "child_indexes") (st := s_child_indexes) F_child_indexes (ok_child_indexes F_child_indexes m_range c_arity c_end_of) gm_child_indexes fun _ _ _ _ _ _ us hl => match us, hl with | [_, _], _ => rfl
    have c_children := cal_of (P := PySem.Challenge.pw_boughtoll_k02_subtrees) (w := w) (base := base) (x := "children") (st := s_children) F_children (ok_children F_children c_check_tree c_child_indexes c_end_of) gm_children fun _ _ _ _ _ _ us hl => match us, hl with | [_], _ => rfl
    have c_subtree := cal_of (P := PySem.Challenge.pw_boughtoll_k02_subtrees) (w := w) (base := base) (x := "subtree") (st := s_subtree) F_subtree (ok_subtree F_subtree c_check_tree c_check_index c_end_of) gm_subtree fun _ _ _ _ _ _ us hl => match us, hl with | [_, _], _ => rfl
    have c_replaced := cal_of (P := PySem.Challenge.pw_boughtoll_k02_subtrees) (w := w) (base := base) (x := "replaced") (st := s_replaced) F_replaced (ok_replaced F_replaced c_check_tree c_check_index c_end_of) gm_replaced fun _ _ _ _ _ _ us hl => match us, hl with | [_, _, _], _ => rfl
    have c_open_nodes := cal_of (P := PySem.Challenge.pw_boughtoll_k02_subtrees) (w := w) (base := base) (x := "open_nodes") (st := s_open_nodes) F_open_nodes (ok_open_nodes F_open_nodes m_range c_arity) gm_open_nodes fun _ _ _ _ _ _ us hl => match us, hl with | [_, _], _ => rfl
    have c_ancestors := cal_of (P := PySem.Challenge.pw_boughtoll_k02_subtrees) (w := w) (base := base) (x := "ancestors") (st := s_ancestors) F_ancestors (ok_ancestors F_ancestors c_check_tree c_check_index c_open_nodes) gm_ancestors fun _ _ _ _ _ _ us hl => match us, hl with | [_, _], _ => rfl
    have c_law_feed := cal_of (P := PySem.Challenge.pw_boughtoll_k02_subtrees) (w := w) (base := base) (x := "_law_feed") (st := s_law_feed) F_law_feed (ok_law_feed F_law_feed m_len m_int) gm_law_feed fun _ _ _ _ _ _ us hl => match us, hl with | [_], _ => rfl
    have c_law_draw := cal_of (P := PySem.Challenge.pw_boughtoll_k02_subtrees) (w := w) (base := base) (x := "_law_draw") (st := s_law_draw) F_law_draw (ok_law_draw F_law_draw m_len m_int) gm_law_draw fun _ _ _ _ _ _ us hl => match us, hl with | [_, _], _ => rfl
    have c_law_any := cal_of (P := PySem.Challenge.pw_boughtoll_k02_subtrees) (w := w) (base := base) (x := "_law_any") (st := s_law_any) F_law_any (ok_law_any F_law_any m_len c_law_draw) gm_law_any fun _ _ _ _ _ _ us hl => match us, hl with | [_, _], _ => rfl
    have c_law_arity := cal_of (P := PySem.Challenge.pw_boughtoll_k02_subtrees) (w := w) (base := base) (x := "_law_arity") (st := s_law_arity) F_law_arity (ok_law_arity F_law_arity) gm_law_arity fun _ _ _ _ _ _ us hl => match us, hl with | [_], _ => rfl
    have c_law_letters := cal_of (P := PySem.Challenge.pw_boughtoll_k02_subtrees) (w := w) (base := base) (x := "_law_letters") (st := s_law_letters) F_law_letters (ok_law_letters F_law_letters m_range m_enumerate m_sorted c_law_draw c_law_any) gm_law_letters fun _ _ _ _ _ _ us hl => match us, hl with | [_], _ => rfl
    have c_law_tree := cal_of (P := PySem.Challenge.pw_boughtoll_k02_subtrees) (w := w) (base := base) (x := "_law_tree") (st := s_law_tree) F_law_tree (ok_law_tree F_law_tree m_len c_law_arity c_law_any) gm_law_tree fun _ _ _ _ _ _ us hl => match us, hl with | [_, _, _], _ => rfl
    have c_law_whole := cal_of (P := PySem.Challenge.pw_boughtoll_k02_subtrees) (w := w) (base := base) (x := "_law_whole") (st := s_law_whole) F_law_whole (ok_law_whole F_law_whole m_isinstance m_int m_bool) gm_law_whole fun _ _ _ _ _ _ us hl => match us, hl with | [_], _ => rfl
    have c_law_fault := cal_of (P := PySem.Challenge.pw_boughtoll_k02_subtrees) (w := w) (base := base) (x := "_law_fault") (st := s_law_fault) F_law_fault (ok_law_fault F_law_fault m_len m_range c_law_arity) gm_law_fault fun _ _ _ _ _ _ us hl => match us, hl with | [_], _ => rfl
    have c_law_end := cal_of (P := PySem.Challenge.pw_boughtoll_k02_subtrees) (w := w) (base := base) (x := "_law_end") (st := s_law_end) F_law_end (ok_law_end F_law_end c_law_arity) gm_law_end fun _ _ _ _ _ _ us hl => match us, hl with | [_, _], _ => rfl
    have c_law_kids := cal_of (P := PySem.Challenge.pw_boughtoll_k02_subtrees) (w := w) (base := base) (x := "_law_kids") (st := s_law_kids) F_law_kids (ok_law_kids F_law_kids m_range c_law_arity c_law_end) gm_law_kids fun _ _ _ _ _ _ us hl => match us, hl with | [_, _], _ => rfl
    exact ok_law F_law hcode (ht _ (List.mem_singleton.mpr rfl)) m_range m_len c_law_feed c_law_draw c_law_any c_law_letters c_law_tree c_law_fault c_law_end c_law_kids (cal_same F_law_same gm_law_same m_isinstance m_int m_bool m_str m_list m_tuple m_len m_all m_zip c_law_whole 1) (cal_same F_law_same gm_law_same m_isinstance m_int m_bool m_str m_list m_tuple m_len m_all m_zip c_law_whole 2) c_children c_subtree c_replaced c_ancestors (gets_refused F_law_refused gm_law_refused gE) ct_InvalidTree ct_InvalidNumber
end Law
open PySem PySem.W PySem.Calls PyProof.Rows
theorem PySem.Challenge.cw_boughtoll_k02_subtrees_holds : PySem.Challenge.rw_boughtoll_k02_subtrees.Holds := by
  w_on; o_law
  refine HandSHeadRun.head_any (r := OpenLaw.row PySem.Challenge.rw_boughtoll_k02_subtrees) (q := view (OpenLaw.row PySem.Challenge.rw_boughtoll_k02_subtrees).prog [56]) (H := Law.hdK) (ob := Law.hdO) (M := 16000) (loose := Law.hdL) (d := HandSHeadRun.topDef (OpenLaw.row PySem.Challenge.rw_boughtoll_k02_subtrees).prog 56) (kwd := []) Law.hdO_eq
    (by kernel_rfl) (fun s => by kernel_rfl) Law.hd_run (by kernel_rfl) (by kernel_rfl) (by kernel_rfl) (by rfl) (by first | assumption | decide +kernel) (by decide +kernel) ⟨rfl, rfl, rfl, rfl, rfl, by decide +kernel⟩ ?hw ?hc
  case hw => w_witness2
  case hc =>
    refine LamX.walk_ofTsE (l := PySem.Challenge.rw_boughtoll_k02_subtrees) (n := 63) (k := 7) (x := "_law_script") (CX := fun _ => L2.CX0) rfl (by decide) (by kernel_rfl) ⟨rfl, by decide, by decide⟩ ?F (fun _ _ _ _ _ z => z)
    intro w mg fa h Y G hmg0
    obtain ⟨K, KX, c⟩ := Y
    have hmg : mg ("law" : PySem.Str) = some (.ref fa) := by
      have e : (HandSHeadRun.topDef (OpenLaw.row PySem.Challenge.rw_boughtoll_k02_subtrees).prog 56).name = ("law" : PySem.Str) := by kernel_rfl
      rw [← e]
      exact hmg0
    exact ⟨K, KX, Law.hd_facts KX G hmg c⟩
namespace Law

end Law
