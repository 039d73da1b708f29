import PyProof.Rows.All
import Wide.All
import OpenK.AllK
import Wide.FinOn
import Lean
import HandS.ForMost
import HandS.ForExc
import HandS.Codes
import HandS.Defaults
import HandS.HeadHook1
import HandS.HeadHook2
import HandS.Property
import HandS.ClsMeth
import KE.GoesEnum
import PyProof.SumWalkG
import PyProof.WalksMore
import HandS.Wide
import HandS.Iter
import HandS.TupAny
import HandS.TupMul
import HandS.Style
import HandS.NoneIn
import HandS.Conv
import HandS.Zip
import HandS.IsInst
import HandS.RevRange
import HandS.Star
import KE.KDflt
import HandS.Lambda
import HandS.Nested
import HandS.CallSlots
import HandS.EndTab
import HandS.HeadHook4
import HandS.ExcOwn
import HandS.ExcField
import HandS.TryOnly
import HandS.ExcInit
import HandS.MakeKwOnly
import HandS.ExcIs
import HandS.TryMany
import HandS.Head0
import HandS.Head1
import HandS.Head2
import HandS.HeadEnd
import HandS.Exc
import KE.KUnpack
import KE.KUnpackStar
import HandS.Base
import HandS.Call
import KE.KRevSl
import PyProof.FString3
import HandS.FStr
import PyProof.StrBlock2
import HandS.Text
import HandS.StrMore
import HandS.Replace
import HandS.ReplaceLit
import HandS.ReplaceDef
import HandS.ExcCtx
import HandS.ReplaceList
import PyProof.MaxThree
import PySem.Challenge.RW_staleloaves_k47_reports
set_option Elab.async false
set_option linter.all false
set_option maxRecDepth 100000
set_option maxHeartbeats 4000000
section
set_option maxRecDepth 100000
set_option maxHeartbeats 4000000
/-! XHook: the head's facts by a list of Bool functions and of function objects found by paths. -/
namespace G57
open PySem PySem.Spec PyProof.Rows L2
/-! ### functions found by paths -/
structure DefA where
  path : PySem.W.Frag → Addr
  name : Str
  qual : Str
  params : Arguments
  body : List Stmt
  scope : Scope
  dfl : List He.Dv := []
  kwd : List (Str × He.Dv) := []
def fnA (K : PySem.W.Frag) (p : PySem.W.Frag → Addr) : He.FnW :=
  match K.lookup (p K) with
  | some ⟨_, _, .func q, _⟩ => some (q.name, q.qualname, q.params, q.body, q.scope, q.globals, q.closure, q.builtins)
  | _ => none
def DefA.val (d : DefA) : He.FnW := some (d.name, d.qual, d.params, .stmts d.body, d.scope, mainGlobals, [], builtinsNs)
def DefA.dvs (K : PySem.W.Frag) (d : DefA) : List V := d.dfl.map (He.Dv.v K)
def DefA.kws (K : PySem.W.Frag) (d : DefA) : List (Str × V) := d.kwd.map fun z => (z.1, z.2.v K)
def DefA.ok (K : PySem.W.Frag) (d : DefA) : Bool :=
  PySem.W.keepIn K (.ref (d.path K)) && (match K.lookup (d.path K) with
  | some ⟨_, _, .func q, _⟩ => PySem.W.codeIn K q.code d.qual && (He.dflB K q.defaults (d.dvs K) && He.kwdB K q.kwdefaults (d.kws K))
  | _ => false)
abbrev DefA.Fn (K : PySem.W.Frag) (d : DefA) (fd : FuncData) : Prop := FunD K d.name d.qual d.params d.body d.scope (d.dvs K) (d.kws K) (d.path K) fd
theorem DefA.funD {K : PySem.W.Frag} {d : DefA} (e : fnA K d.path = d.val) (c : d.ok K = true) : ∃ fd, d.Fn K fd := by
  obtain ⟨kp, c2⟩ := He.ba c
  unfold fnA at e
  cases q : K.lookup (d.path K) with
  | none =>
    rw [q] at c2
    cases c2
  | some o =>
    obtain ⟨oc, od, dt, osl⟩ := o
    rw [q] at c2 e
    cases dt with
    | func fd =>
      obtain ⟨m1, m2, m3, m4, m5, m6, m7, m8, m9, m10, m11, m12, m13, m14, m15⟩ := fd
      have e2 : (some (m1, m2, m3, m4, m5, m6, m7, m15) : He.FnW) = d.val := e
      unfold DefA.val at e2
      simp only [Option.some.injEq, Prod.mk.injEq] at e2
      obtain ⟨z1, z2, z3, z4, z5, z6, z7, z8⟩ := e2
      subst z1 z2 z3 z4 z5 z6 z7 z8
      have c3 : (PySem.W.codeIn K m13 d.qual && (He.dflB K m8 (d.dvs K) && He.kwdB K m9 (d.kws K))) = true := c2
      obtain ⟨y1, y2⟩ := He.ba c3
      obtain ⟨y3, y4⟩ := He.ba y2
      exact ⟨_, ⟨oc, od, m8, m9, m10, m11, m12, m13, m14, osl, rfl, q, y1, He.dflB_ok y3, He.kwdB_ok y4⟩, kp⟩
    | _ => cases c2
/-! ### the Hook -/
abbrev Ex : Type := PySem.W.Frag → Bool
abbrev AlA : Type := Bool × List He.FnW
def obsA (ex : List Ex) (fn : List DefA) (K : PySem.W.Frag) : AlA :=
  ((ex.all fun z => z K) && fn.all fun d => d.ok K, fn.map fun d => fnA K d.path)
def valA (fn : List DefA) : AlA := (true, fn.map DefA.val)
def SaysA (ex : List Ex) (fn : List DefA) (K : PySem.W.Frag) : Prop := obsA ex fn K = valA fn
/-- what the module's names, and the interpreter's own table, reach in n steps -/
def asA (g : Addr → Option Obj) : Nat → List Addr
  | 0 => [mainGlobals, cStatics]
  | n + 1 => He.growD g (asA g n)
def obsAG (n : Nat) (ex : List Ex) (fn : List DefA) (g : Addr → Option Obj) : AlA := obsA ex fn (He.frG g (asA g n))
def hookA (n : Nat) (ex : List Ex) (fn : List DefA) : PySem.W.Hook where
  α := AlA
  obs := fun s => obsAG n ex fn s.heap.get?
  val := fun _ => valA fn
  says := fun _ h => ∃ K : PySem.W.Frag, K.In h ∧ SaysA ex fn K
  of := fun _ _ e => ⟨_, He.frG_in, e⟩
  keeps := fun _ _ _ z k => let ⟨K, hK, c⟩ := z; ⟨K, PySem.W.Frag.In.keeps hK k, c⟩
theorem obsAG_eq {n : Nat} {ex : List Ex} {fn : List DefA} {g : Addr → Option Obj} {s : Shared} (h : ∀ a, g a = s.heap.get? a) :
    obsAG n ex fn g = (hookA n ex fn).obs s := by
  have e : g = s.heap.get? := funext h
  rw [e]
  rfl
section
variable {ex : List Ex} {fn : List DefA} {K : PySem.W.Frag}
theorem SaysA.fact (c : SaysA ex fn K) (i : Nat) {f : Ex} (h : ex[i]? = some f := by rfl) : f K = true := by
  have c0 : ((ex.all fun z => z K) && fn.all fun d => d.ok K) = true := congrArg (fun z : AlA => z.1) c
  exact List.all_eq_true.mp (He.ba c0).1 f (List.mem_of_getElem? h)
theorem SaysA.fn_ (c : SaysA ex fn K) (i : Nat) {d : DefA} (h : fn[i]? = some d := by rfl) : ∃ fd, d.Fn K fd := by
  have c0 : ((ex.all fun z => z K) && fn.all fun d => d.ok K) = true := congrArg (fun z : AlA => z.1) c
  have e : fn.map (fun d => fnA K d.path) = fn.map DefA.val := congrArg (fun z : AlA => z.2) c
  have e2 : (fn.map fun d => fnA K d.path)[i]? = (fn.map DefA.val)[i]? := by rw [e]
  rw [List.getElem?_map, List.getElem?_map, h] at e2
  exact DefA.funD (Option.some.inj e2) (List.all_eq_true.mp (He.ba c0).2 d (List.mem_of_getElem? h))
end
/-! ### paths -/
abbrev pG (x : Str) : PySem.W.Frag → Addr := fun K => He.ga K x
abbrev pM (C m : Str) : PySem.W.Frag → Addr := fun K => He.ma K (He.ga K C) m
/-- a property's object, its getter -/
def prA (K : PySem.W.Frag) (C : Addr) (f : Str) : Addr := match PySem.W.findIn K (.ref C) f with
  | some (some (.ref p)) => p
  | _ => 0
def gtA (K : PySem.W.Frag) (C : Addr) (f : Str) : Addr := match PySem.W.recIn K (prA K C f) "property" with
  | some (.ref g :: _) => g
  | _ => 0
abbrev pP (C f : Str) : PySem.W.Frag → Addr := fun K => gtA K (He.ga K C) f
def propB (C f : Str) : Ex := fun K =>
  He.eqO (PySem.W.findIn K (.ref (He.ga K C)) f) (some (some (.ref (prA K (He.ga K C) f)))) &&
  (He.eqO (PySem.W.specialIn K (.ref (prA K (He.ga K C) f)) "__get__") (some (some (.builtin "property.__get__"))) &&
  (decide (PySem.W.takesIn K (.ref (prA K (He.ga K C) f)) = some true) &&
  (match PySem.W.recIn K (prA K (He.ga K C) f) "property" with
  | some (.ref _ :: _) => true
  | _ => false)))
theorem prop_ok {K : PySem.W.Frag} {C f : Str} (h : propB C f K = true) : PropOf K (He.ga K C) f (prA K (He.ga K C) f) (gtA K (He.ga K C) f) := by
  unfold propB at h
  obtain ⟨z1, h⟩ := He.ba h
  obtain ⟨z2, h⟩ := He.ba h
  obtain ⟨z3, h⟩ := He.ba h
  refine ⟨He.eqO_ok z1, He.eqO_ok z2, of_decide_eq_true z3, ?_⟩
  unfold gtA
  cases q : PySem.W.recIn K (prA K (He.ga K C) f) "property" with
  | none =>
    rw [q] at h
    cases h
  | some l =>
    rw [q] at h
    cases l with
    | nil => cases h
    | cons v r =>
      cases v with
      | ref g => exact ⟨r, rfl⟩
      | _ => cases h
/-! ### a class's constant read off the class -/
def cvalB (C f : Str) (i : Int) : Ex := fun K =>
  PySem.W.readsIn K (He.ga K C) (.type "type") &&
  (He.eqO (PySem.W.specialIn K (.ref (He.ga K C)) "__getattribute__") (some (some (.builtin "type.__getattribute__"))) &&
  (match PySem.W.findCls K (.ref (He.ga K C)) (.type "type") f with
  | some (.val (.int j _)) => decide (j = i)
  | _ => false))
theorem cval_ok {K : PySem.W.Frag} {C f : Str} {i : Int} (h : cvalB C f i K = true) :
    ClX.CRead K (He.ga K C) (.type "type") ∧ ∃ u, ClX.CVal K (He.ga K C) (.type "type") f (.int i) u := by
  unfold cvalB at h
  obtain ⟨z1, h⟩ := He.ba h
  obtain ⟨z2, h⟩ := He.ba h
  refine ⟨⟨z1, He.eqO_ok z2⟩, ?_⟩
  cases q : PySem.W.findCls K (.ref (He.ga K C)) (.type "type") f with
  | none =>
    rw [q] at h
    cases h
  | some r =>
    rw [q] at h
    cases r with
    | val v =>
      cases v with
      | int j t =>
        have ej : j = i := of_decide_eq_true h
        subst ej
        exact ⟨_, q, t, rfl⟩
      | _ => cases h
    | _ => cases h
/-! ### names -/
theorem bb_max : bootBuiltins "max" = some (.builtin "max") := by decide +kernel
theorem bb_min : bootBuiltins "min" = some (.builtin "min") := by decide +kernel
theorem bb_len : bootBuiltins "len" = some (.builtin "len") := by decide +kernel
theorem bb_sum : bootBuiltins "sum" = some (.builtin "sum") := by decide +kernel
theorem bb_any : bootBuiltins "any" = some (.builtin "any") := by decide +kernel
theorem bb_all : bootBuiltins "all" = some (.builtin "all") := by decide +kernel
theorem bb_isinstance : bootBuiltins "isinstance" = some (.builtin "isinstance") := by decide +kernel
theorem bb_int : bootBuiltins "int" = some (.type "int") := by decide +kernel
theorem bb_bool : bootBuiltins "bool" = some (.type "bool") := by decide +kernel
theorem bb_str : bootBuiltins "str" = some (.type "str") := by decide +kernel
theorem bb_list : bootBuiltins "list" = some (.type "list") := by decide +kernel
theorem bb_tuple : bootBuiltins "tuple" = some (.type "tuple") := by decide +kernel
theorem bb_dict : bootBuiltins "dict" = some (.type "dict") := by decide +kernel
theorem bb_set : bootBuiltins "set" = some (.type "set") := by decide +kernel
theorem bb_sorted : bootBuiltins "sorted" = some (.builtin "sorted") := by decide +kernel
theorem bb_zip : bootBuiltins "zip" = some (.type "zip") := by decide +kernel
theorem bb_enumerate : bootBuiltins "enumerate" = some (.type "enumerate") := by decide +kernel
theorem gc_int {mg : Str → Option Value} {x : Str} {i : Int} (h : ∃ t, mg x = some (.int i t)) : ∃ u, mg x = some u ∧ RelV (.int i) u :=
  let ⟨t, e⟩ := h; ⟨_, e, t, rfl⟩
/-! ### callables -/
section
variable {P : Program} {w : World} {K : PySem.W.Frag} {mg : Str → Option Value} {base : Heap}
theorem fun_of {x qual : Str} {pa : Arguments} {bd : List Stmt} {sc : Scope} {kws : List (Str × V)} {f : Addr} {fd : FuncData} (F : FunD K x qual pa bd sc [] kws f fd) :
    ∃ (oc : Value) (od : Option Addr) (kV doc pm : Value) (an : Option Addr) (cdv ct : Value) (osl : Array (Option Value)),
    fd = PySem.W.fnOf x qual pa bd sc .none kV doc pm an cdv ct ∧ K.lookup f = some ⟨oc, od, .func fd, osl⟩ ∧ PySem.W.codeIn K cdv qual = true := by
  obtain ⟨oc, od, dV, kV, doc, pm, an, cdv, ct, osl, e, lk, hcd, hD, _⟩ := F.ex
  rcases hD with ⟨_, rfl⟩ | ⟨h, _⟩
  · exact ⟨oc, od, kV, doc, pm, an, cdv, ct, osl, e, lk, hcd⟩
  · exact absurd rfl h
/-- what a body must show, nothing let out -/
abbrev Body0 (P : Program) (w : World) (K : PySem.W.Frag) (mg : Str → Option Value) (base : Heap) (N : List Str) (qual : Str) (bd : List Stmt) (sc : Scope) (f : Addr) (k : Nat) (sp : Sp) : Prop :=
  ∀ (cdv : Value) (A : Around) (outer : List Env) (s : Shared) (H : Hp) (vs : List V) (Q : VK) (E : XK), Room k (A.deeper (envOfC qual sc s.heap.objs.size f cdv)) → sp vs H Q E →
    ∃ t, PSs (cxOf CX0 P w K mg base N qual sc f cdv A outer s H E).nox bd t ∧ t { nx := fun _ H' => Q .non H', rt := Q } (start N vs) H
theorem fn0_of {x qual : Str} {pa : Arguments} {bd : List Stmt} {sc : Scope} {kws : List (Str × V)} {f : Addr} {fd : FuncData} {N ps : List Str} {k : Nat} {sp : Sp} (F : FunD K x qual pa bd sc [] kws f fd) (S : FnScope N ps sc)
    (len : ∀ vs H Q E, sp vs H Q E → vs.length = ps.length) (hb : Body0 P w K mg base N qual bd sc f k sp) : FnOk P w K mg base CX0 (k + 1) f fd ps sp := by
  obtain ⟨oc, od, kV, doc, pm, an, cdv, ct, osl, rfl, lk, hcd⟩ := fun_of F
  refine fn_of lk hcd S len fun A outer s H vs Q E hr hsp => ?_
  obtain ⟨t, h, q⟩ := hb cdv A outer s H vs Q E hr hsp
  exact ⟨t, h.nox, q⟩
abbrev BindA (x qual : Str) (pa : Arguments) (bd : List Stmt) (sc : Scope) (ps : List Str) : Prop := ∀ (kV doc pm : Value) (an : Option Addr) (cdv ct : Value) (us : List Value), us.length = ps.length → bindArgs (PySem.W.fnOf x qual pa bd sc .none kV doc pm an cdv ct) ⟨us, []⟩ = pure (ps.zip us)
/-- a def of the module -/
theorem cal_of {d : DefA} {x : Str} {N ps : List Str} {k : Nat} {sp : Sp} (F : ∃ fd, d.Fn K fd) (hp : d.path = pG x) (hd : d.dfl = []) (hm : mg x = some (.ref (He.ga K x))) (S : FnScope N ps d.scope)
    (b : BindA d.name d.qual d.params d.body d.scope ps) (len : ∀ vs H Q E, sp vs H Q E → vs.length = ps.length) (hb : Body0 P w K mg base N d.qual d.body d.scope (He.ga K x) k sp) : C8.Cal P w K mg base (k + 1) x sp [] := by
  obtain ⟨fd, F⟩ := F
  have F' : FunD K d.name d.qual d.params d.body d.scope [] (d.kws K) (He.ga K x) fd := by
    have q : FunD K d.name d.qual d.params d.body d.scope (d.dvs K) (d.kws K) (d.path K) fd := F
    unfold DefA.dvs at q
    rw [hd, hp] at q
    exact q
  have Fk := fn0_of (P := P) (w := w) (mg := mg) (base := base) F' S len hb
  obtain ⟨oc, od, kV, doc, pm, an, cdv, ct, osl, rfl, lk, hcd⟩ := fun_of F'
  exact ⟨_, _, ps, [], Fk, hm, F'.kp, .all (b kV doc pm an cdv ct), .nil⟩
/-- a method -/
theorem met_of {d : DefA} {C m : Str} {N ps : List Str} {k : Nat} {sp : Sp} (F : ∃ fd, d.Fn K fd) (hp : d.path = pM C m) (hd : d.dfl = []) (hc : Cls K (He.ga K C)) (hm : Meth K (He.ga K C) m (He.ma K (He.ga K C) m)) (S : FnScope N ps d.scope)
    (b : BindA d.name d.qual d.params d.body d.scope ps) (len : ∀ vs H Q E, sp vs H Q E → vs.length = ps.length) (hb : Body0 P w K mg base N d.qual d.body d.scope (He.ma K (He.ga K C) m) k sp) : C8.Met P w K mg base (k + 1) (He.ga K C) m sp [] := by
  obtain ⟨fd, F⟩ := F
  have F' : FunD K d.name d.qual d.params d.body d.scope [] (d.kws K) (He.ma K (He.ga K C) m) fd := by
    have q : FunD K d.name d.qual d.params d.body d.scope (d.dvs K) (d.kws K) (d.path K) fd := F
    unfold DefA.dvs at q
    rw [hd, hp] at q
    exact q
  have Fk := fn0_of (P := P) (w := w) (mg := mg) (base := base) F' S len hb
  obtain ⟨oc, od, kV, doc, pm, an, cdv, ct, osl, rfl, lk, hcd⟩ := fun_of F'
  exact ⟨_, _, ps, [], hc, hm, Fk, .all (b kV doc pm an cdv ct), .nil⟩
/-- a class called, by its __init__ -/
theorem mak_of {d : DefA} {C : Str} {N ps : List Str} {k : Nat} {sp : Sp} (F : ∃ fd, d.Fn K fd) (hp : d.path = pM C "__init__") (hd : d.dfl = []) (hm : mg C = some (.ref (He.ga K C))) (M : Mk K (He.ga K C) (He.ma K (He.ga K C) "__init__")) (S : FnScope N ps d.scope)
    (b : BindA d.name d.qual d.params d.body d.scope ps) (len : ∀ vs H Q E, sp vs H Q E → vs.length = ps.length) (hb : Body0 P w K mg base N d.qual d.body d.scope (He.ma K (He.ga K C) "__init__") k sp) : C8.Mak P w K mg base (k + 1) C (He.ga K C) sp [] := by
  obtain ⟨fd, F⟩ := F
  have F' : FunD K d.name d.qual d.params d.body d.scope [] (d.kws K) (He.ma K (He.ga K C) "__init__") fd := by
    have q : FunD K d.name d.qual d.params d.body d.scope (d.dvs K) (d.kws K) (d.path K) fd := F
    unfold DefA.dvs at q
    rw [hd, hp] at q
    exact q
  have Fk := fn0_of (P := P) (w := w) (mg := mg) (base := base) F' S len hb
  obtain ⟨oc, od, kV, doc, pm, an, cdv, ct, osl, rfl, lk, hcd⟩ := fun_of F'
  exact ⟨_, _, ps, [], M, Fk, hm, .all (b kV doc pm an cdv ct), .nil⟩
/-- a property -/
structure Prp (P : Program) (w : World) (K : PySem.W.Frag) (mg : Str → Option Value) (base : Heap) (k : Nat) (C : Addr) (f : Str) (sp : Sp) : Prop where
  ex : ∃ (p g : Addr) (fd : FuncData) (ps : List Str), Cls K C ∧ PropOf K C f p g ∧ FnOk P w K mg base CX0 k g fd ps sp ∧ Binds K fd ps []
theorem prp_of {d : DefA} {C f : Str} {N ps : List Str} {k : Nat} {sp : Sp} (F : ∃ fd, d.Fn K fd) (hp : d.path = pP C f) (hd : d.dfl = []) (hc : Cls K (He.ga K C)) (hm : propB C f K = true) (S : FnScope N ps d.scope)
    (b : BindA d.name d.qual d.params d.body d.scope ps) (len : ∀ vs H Q E, sp vs H Q E → vs.length = ps.length) (hb : Body0 P w K mg base N d.qual d.body d.scope (gtA K (He.ga K C) f) k sp) : Prp P w K mg base (k + 1) (He.ga K C) f sp := by
  obtain ⟨fd, F⟩ := F
  have F' : FunD K d.name d.qual d.params d.body d.scope [] (d.kws K) (gtA K (He.ga K C) f) fd := by
    have q : FunD K d.name d.qual d.params d.body d.scope (d.dvs K) (d.kws K) (d.path K) fd := F
    unfold DefA.dvs at q
    rw [hd, hp] at q
    exact q
  have Fk := fn0_of (P := P) (w := w) (mg := mg) (base := base) F' S len hb
  obtain ⟨oc, od, kV, doc, pm, an, cdv, ct, osl, rfl, lk, hcd⟩ := fun_of F'
  exact ⟨_, _, _, ps, hc, prop_ok hm, Fk, .all (b kV doc pm an cdv ct)⟩
end
section
variable {X : Cx} {k j : Nat} {C : Addr} {f : Str} {sp : Sp} {e : Expr} {pos : Pos} {ta : TE}
theorem pe_pr (c : Prp X.prog X.w X.K X.mg X.base k C f sp) (hr : Room j X.A) (hk : k + 1 ≤ j) (he : PE X e ta) (hab : attributeBase e f X.env (eval e X.env) = eval e X.env := by rfl) :
    PE X (.Attribute e f pos) (tProp C sp [] E0 ta) := by
  obtain ⟨p, g, fd, ps, hc, hp, F, b⟩ := c.ex
  exact pe_prop he hc hp F (hr.mono hk) b .nil pass0 hab
end
end G57
end
section
set_option maxRecDepth 100000
set_option maxHeartbeats 4000000
/-! XRules: rules that the layer lacks: named relations for built-ins, int comparisons, sum of a tuple, enumerate of a tuple, xs[i] op= e. -/
namespace G57
open PySem PySem.Spec PyProof.Rows L2
section
variable {X : Cx}
/-! ### named relations -/
def rMx : List V → Hp → VK → Prop := fun xs H Q => ∃ i j, xs = [.int i, .int j] ∧ Q (.int (max i j)) H
theorem cq_max2 (hc : X.calm = true) : CallR X (.builtin "max") rMx := fun pins s σ H xs us Q I r h => by
  obtain ⟨i, j, e, q⟩ := h
  refine call_max2 hc pins s σ H xs us Q I r ⟨i, j, e, ?_⟩
  have z : (if j > i then j else i) = max i j := by
    split <;> omega
  rw [z]
  exact q
def rMn : List V → Hp → VK → Prop := fun xs H Q => ∃ i j, xs = [.int i, .int j] ∧ Q (.int (min i j)) H
theorem cq_min2 (hc : X.calm = true) : CallR X (.builtin "min") rMn := fun pins s σ H xs us Q I r h => by
  obtain ⟨i, j, e, q⟩ := h
  refine call_min2 hc pins s σ H xs us Q I r ⟨i, j, e, ?_⟩
  have z : (if j < i then j else i) = min i j := by
    split <;> omega
  rw [z]
  exact q
def rInt : List V → Hp → VK → Prop := fun xs H Q => (∃ i, xs = [.int i] ∧ Q (.int i) H) ∨ ∃ k, xs = [.bl k] ∧ Q (.int (if k then 1 else 0)) H
theorem cq_int : CallR X (.type "int") rInt := call_int1
def rLenQ (K : PySem.W.Frag) : List V → Hp → VK → Prop := fun xs H Q => ∃ p ys, xs = [.ref p] ∧ (SqL K H p ys ∨ SqT K H p ys) ∧ Q (.int ys.length) H
theorem cq_len : CallR X (.builtin "len") (rLenQ X.K) := call_len_seq
def rListQ (K : PySem.W.Frag) : List V → Hp → VK → Prop := fun xs H Q => ∃ p ys, xs = [.ref p] ∧ (SqL K H p ys ∨ SqT K H p ys) ∧ ∀ l, H l = none → Q (.ref l) (upd H l (.lst ys))
theorem cq_list : CallR X (.type "list") (rListQ X.K) := call_list_of
def rTupLQ (K : PySem.W.Frag) : List V → Hp → VK → Prop := fun xs H Q => ∃ p ys, xs = [.ref p] ∧ SqL K H p ys ∧ ∀ l, H l = none → Q (.ref l) (upd H l (.tup ys))
theorem cq_tupL : CallR X (.type "tuple") (rTupLQ X.K) := fun pins s σ H xs us Q I r h => by
  obtain ⟨p, ys, e, h1, h2⟩ := h
  exact call_tuple_of pins s σ H xs us Q I r ⟨p, ys, e, .inl ⟨h1, h2⟩⟩
def rTupTQ (K : PySem.W.Frag) : List V → Hp → VK → Prop := fun xs H Q => ∃ p ys, xs = [.ref p] ∧ SqT K H p ys ∧ Q (.ref p) H
theorem cq_tupT : CallR X (.type "tuple") (rTupTQ X.K) := fun pins s σ H xs us Q I r h => by
  obtain ⟨p, ys, e, h1, h2⟩ := h
  exact call_tuple_of pins s σ H xs us Q I r ⟨p, ys, e, .inr ⟨h1, h2⟩⟩
/-! ### comparisons of ints -/
theorem op_eqI : OpR X (compareOp .Eq) (rI0 fun i j => .bl (decide (i = j))) :=
  opB0 fun _ _ _ _ _ _ _ h => PyProof.Rows.eq_int (by rw [Bool.beq_eq_decide_eq]; exact h)
theorem op_neI : OpR X (compareOp .NotEq) (rI0 fun i j => .bl (!decide (i = j))) :=
  opB0 fun _ _ _ _ _ _ _ h => PyProof.Rows.ne_int (by rw [bne, Bool.beq_eq_decide_eq]; exact h)
/-! ### op= -/
theorem ip_mul : PIp X .Mult fun x y H Q => ∃ i j, x = .int i ∧ y = .int j ∧ CMul i j ∧ Q (.int (i * j)) H := fun pins s σ H x y v u Q I rx ry h => iop_mul pins s σ H x y v u Q I rx ry h
def rGetL (K : PySem.W.Frag) : V → V → Hp → VK → Prop := fun o i H Q => ∃ p xs, ∃ j : Nat, ∃ v, o = .ref p ∧ i = .int j ∧ SqL K H p xs ∧ xs[j]? = some v ∧ Q v H
theorem pget_list : PGet X (rGetL X.K) := fun pins s σ H o i ov iv Q I ro ri h => by
  obtain ⟨p, xs, j, v, rfl, rfl, hq, hx, q⟩ := h
  obtain rfl : ov = Value.ref p := ro
  obtain ⟨tk, rfl⟩ := ri
  obtain ⟨its, rv, pl, hz⟩ := I.list hq
  obtain ⟨u, hu, ru⟩ := rv.get hx
  have hj : j < xs.length := (List.getElem?_eq_some_iff.mp hx).1
  have hb : (j : Int) < 2 ^ 63 := by
    have z : sizeLine < 2 ^ 63 := by decide
    omega
  exact wpAny_getItem_list pl.isList (Int.natCast_nonneg j) hb (by simpa using hu) ⟨v, H, I, ru, q⟩
/-! ### sum of a tuple -/
def rSumT (K : PySem.W.Frag) : List V → Hp → VK → Prop := fun vs H Q => ∃ (a : Addr) (ns : List Int), vs = [V.ref a] ∧ SqT K H a (ns.map V.int) ∧ Q (.int ns.sum) H
theorem sum_tup_raw {prog : Program} {w : World} {A : Around} {E : Value → Shared → Prop} {s : Shared} {t : Addr} {its : List Value} {ns : List Int} {Q : Value → Shared → Prop} (hh : A.handled = none) (ht : s.heap.IsTuple t its.toArray) (hi : IntsAre its ns)
    (h : ∀ h' tk t', (∀ b o, s.heap.get? b = some o → h'.get? b = some o) → Q (.int ns.sum t') { s with heap := h', toks := tk }) : wpAny (model prog w) A (call (.builtin "sum") [.ref t]) Q E s := by
  obtain ⟨xs, e⟩ := hi.allInts.items
  have hn : numsOf (intItems xs).toList = ns := by
    rw [← e]
    exact hi.numsOf
  rw [nums_intItems] at hn
  rw [e] at ht
  have hlt : t < s.heap.objs.size := by
    obtain ⟨_, z, _⟩ := ht
    exact Heap.lt_size z
  refine call_sum_walkG (wpAny_pyIter_tuple ht ?_)
  have st : (s.heap.push { cls := .type "tuple_iterator", data := .fields #[.ref t, .int 0 0] }).IsTupleIter s.heap.objs.size t 0 ∧ (s.heap.push { cls := .type "tuple_iterator", data := .fields #[.ref t, .int 0 0] }).IsTuple t (intItems xs) :=
    ⟨⟨_, Heap.get?_push_size _ rfl, rfl, rfl⟩, ht.at fun o z => Heap.get?_push_of_some _ z⟩
  refine ⟨_, _, _, _, _, _, numAt xs, rfl, Walks.tuple (A := A.in1) hh _ t (Nat.ne_of_lt hlt) (intItems xs), st, fun b hb => ?_, (fun _ _ => intItems_at), fun h' tk t' hk => ?_⟩
  · show b < (s.heap.push _).objs.size
    rw [Heap.size_push]
    rcases List.mem_cons.mp hb with rfl | hb
    · exact Nat.lt_succ_self _
    · rcases List.mem_cons.mp hb with rfl | hb
      · exact Nat.lt_succ_of_lt hlt
      · cases hb
  · have z := h h' tk t' fun b o q => hk b o (fun m => by
        rw [List.mem_singleton.mp m] at q
        exact absurd (Heap.lt_size q) (Nat.lt_irrefl _)) (Heap.get?_push_of_some _ q)
    rw [← hn] at z
    have e1 : preSum (numAt xs) (intItems xs).size = ((xs.toList.map (·.1))).sum := by
      have e2 : (intItems xs).size = xs.size := by simp [intItems]
      rw [e2, preSum_eq, List.take_of_length_le (by simp)]
    rw [e1]
    exact z
theorem cr_sumT (hc : X.calm = true) : CallR X (.builtin "sum") (rSumT X.K) := fun pins s σ H xs us Q I r h => by
  obtain ⟨a, ns, rfl, hq, q⟩ := h
  cases r with
  | cons ra rr =>
    cases rr
    cases ra
    obtain ⟨its, rv, ht, hz⟩ := I.tuple hq
    refine sum_tup_raw (I.ok.hd hc) ht (intsAre_of rv) fun h' tk t' hk => ?_
    exact ⟨.int ns.sum, H, I.kept (t' := tk) hk, ⟨_, rfl⟩, q⟩
end
/-! ### rules at a named fragment (inside a comprehension's block) -/
section
variable {X : Cx} {K : PySem.W.Frag}
theorem callK {f : Value} {r : PySem.W.Frag → List V → Hp → VK → Prop} (h : X.K = K) (c : CallR X f (r X.K)) : CallR X f (r K) := h ▸ c
theorem opK {f : Value → Value → Sem Value} {r : PySem.W.Frag → R2} (h : X.K = K) (c : OpR X f (r X.K)) : OpR X f (r K) := h ▸ c
theorem ixK {r : PySem.W.Frag → R2} (h : X.K = K) (c : IxR X (r X.K)) : IxR X (r K) := h ▸ c
theorem slK {r : PySem.W.Frag → V → Option Int → Option Int → Hp → VK → Prop} (h : X.K = K) (c : SlR X (r X.K)) : SlR X (r K) := h ▸ c
theorem pe_fldK {e : Expr} {ta : TE} {f : Str} {pos : Pos} (h : X.K = K) (he : PE X e ta) (hb : attributeBase e f X.env (eval e X.env) = eval e X.env) : PE X (.Attribute e f pos) (tFld K ta f) := h ▸ pe_fld he hb
theorem pg_tupK {es : List Expr} {k : Nat} {t : TGs} {n : Nat} {pos : Pos} (hK : X.K = K) (hc : X.calm = true) (h : PGs X es t) (hn : (assignEach es X.env).length = n := by rfl) (hst : (assignEach es X.env).findIdx? (·.1) = none := by rfl) : PG X (.Tuple es k pos) (gTup K n t) := hK ▸ pg_tup hc h hn hst
theorem pi_listK {tg l : Expr} {tl : TE} (h : X.K = K) (hl : PE X l tl) : PI X tg l (iList K tl) := h ▸ pi_list hl
theorem pi_tupK {tg l : Expr} {tl : TE} (h : X.K = K) (hl : PE X l tl) : PI X tg l (iTup K tl) := h ▸ pi_tup hl
end
/-! ### enumerate of a tuple -/
section
variable {prog : Program} {w : World} {A : Around} {E : Value → Shared → Prop} {s : Shared}
set_option maxHeartbeats 1000000 in
theorem meets_enum_new1 {v : Value} {o : Obj} {J : Heap → Prop} (B : Begins v o J) :
    Meets (Builtin.«enumerate.__new__» ⟨[.type "enumerate", v], []⟩) (fun _ R s => J s.heap ∧
      R (.ok (.ret (.ref (s.heap.push o).objs.size))) { s with heap := (s.heap.push o).push { cls := .type "enumerate", data := .fields #[.none, .bool false, .ref s.heap.objs.size, rawInt 0, .none, .none] } }) :=
  .of_wp fun prog w A R s h => by
    obtain ⟨hp, g, d, tk, os⟩ := s
    obtain ⟨h1, h⟩ := h
    have hsub := sub_enumerate
    have q1 : ∀ {A' : Around} {E : Value → Shared → Prop} {Q : Value → Shared → Prop}, Q (.ref hp.objs.size) ⟨hp.push o, g, d, tk, os⟩ → wpAny (model prog w) A' (pyIter v) Q E ⟨hp, g, d, tk, os⟩ := fun q => B.iter prog w _ _ ⟨hp, g, d, tk, os⟩ _ h1 q
    wp_walk using q1
    refine wpAny_stack_any fun st => wpAny_pure ?_
    split
    · rename_i c _ _ _ _ _
      cases (c == Value.type "enumerate") <;> (wp_walk using q1; exact ⟨_, rfl, h⟩)
    · wp_walk using q1
      exact ⟨_, rfl, h⟩
theorem enum_begins1 {v : Value} {o : Obj} {J : Heap → Prop} {Q : Value → Shared → Prop} (B : Begins v o J) (h1 : J s.heap)
    (h : ∀ h', IsEnum h' (s.heap.objs.size + 1) s.heap.objs.size 0 .none → h'.get? s.heap.objs.size = some o → h'.objs.size = s.heap.objs.size + 2 → (∀ b o, s.heap.get? b = some o → h'.get? b = some o) → Q (.ref (s.heap.objs.size + 1)) { s with heap := h' }) :
    wpAny (model prog w) A (call (.type "enumerate") [v]) Q E s := by
  refine callType_new F.called_enumerate (by decide) (F.typeCall_enumerate_1 _) (F.newCall_enumerate_1 _) (fun obj => F.args_object_init_2 obj _) F.entry_enumerate_new (meets_enum_new1 B) ⟨h1, ?_⟩
  have hz : (s.heap.push o).objs.size = s.heap.objs.size + 1 := Heap.size_push ..
  show _ ∧ _
  rw [hz]
  have he : IsEnum ((s.heap.push o).push { cls := .type "enumerate", data := .fields #[.none, .bool false, .ref s.heap.objs.size, rawInt 0, .none, .none] }) (s.heap.objs.size + 1) s.heap.objs.size 0 .none := by
    have z := Heap.get?_push_size (s.heap.push o) (o := { cls := .type "enumerate", data := .fields #[.none, .bool false, .ref s.heap.objs.size, rawInt 0, .none, .none] }) rfl
    rw [hz] at z
    exact z
  exact ⟨⟨_, he, rfl⟩, h _ he (Heap.get?_push_of_some _ (Heap.get?_push_size _ B.free)) (by rw [Heap.size_push, hz]) fun b o x => Heap.get?_push_of_some _ (Heap.get?_push_of_some _ x)⟩
end
def IteT (K : PySem.W.Frag) (a : Addr) : It :=
  ⟨fun i H => ∃ (xs : List V) (x : V), SqT K H a xs ∧ xs[i]? = some x, fun i H v H' => ∃ T x, v = .ref T ∧ H T = none ∧ H' = upd H T (.tup [.int (i : Nat), x]) ∧ ∀ xs, SqT K H a xs → xs[i]? = some x, fun i H => ∃ xs : List V, SqT K H a xs ∧ xs.length = i⟩
theorem turn_enumT {P : Program} {w : World} {K : PySem.W.Frag} {elts : List Expr} {kk : Nat} {tpos : Pos} (a e it : Addr) (hae : a ≠ e) (hai : a ≠ it) :
    Turn P w K (.Tuple elts kk tpos) (IteT K a) [e, it] e (fun i h => (∃ old, IsEnum h e it ((i : Nat) : Int) old) ∧ h.IsTupleIter it a i ∧ e ≠ it) where
  mem := by simp
  obj := fun i h st b hb => by
    obtain ⟨⟨old, he⟩, ⟨o, ho, hc, hd⟩, _⟩ := st
    rcases (by simpa using hb : b = e ∨ b = it) with z | z <;> subst z
    · exact ⟨_, he, fun v q => nomatch q⟩
    · exact ⟨o, ho, fun v q => by rw [hd] at q; cases q⟩
  keep := fun i h h' st k => by
    obtain ⟨⟨old, he⟩, hi, hne⟩ := st
    exact ⟨⟨old, k e (by simp) _ he⟩, hi.at fun o q => k it (by simp) o q, hne⟩
  item := by
    intro X hP hw hK hc i pins s σ H E I hf st hg
    subst hP hw hK
    obtain ⟨⟨old, he⟩, hit, hne⟩ := st
    obtain ⟨xs, x, hq, hx⟩ := hg
    obtain ⟨its, rv, p, hz⟩ := I.tuple hq
    obtain ⟨u, hu, ru⟩ := rv.get hx
    have lte : e < s.heap.objs.size := Heap.lt_size he
    have lti : it < s.heap.objs.size := by
      obtain ⟨_, q, _⟩ := hit
      exact Heap.lt_size q
    have hlt : i < its.toArray.size := by
      have z := (List.getElem?_eq_some_iff.mp hu).1
      simpa using z
    refine wpAny_pyNext_enum_itemC (Draws.tuple (A := X.A.in1) (I.ok.hd hc) it a hai its.toArray) he ⟨hit, p⟩ hlt hne (by simp [hne, Ne.symm hae]) fun y h' tk hP ho hst hT hsz hk => ?_
    obtain ⟨hit', _⟩ := hst
    have ey : y = u := by
      have z : its[i]? = some y := by simpa using hP
      rw [hu] at z
      exact (Option.some.inj z).symm
    subst ey
    refine ⟨_, rfl, wpAny_letOwnedTupleGo_enum (s := { s with heap := h', toks := tk + 1 }) ho fun h2 he2 sb => ?_⟩
    have hT2 : h2.get? s.heap.objs.size = some { cls := .type "tuple", data := .seq #[.int i tk, y] } := (sb.2 _ (Nat.ne_of_gt lte)).trans hT
    have new : ObjOk X.prog X.w (upd H s.heap.objs.size (.tup [.int (i : Nat), x])) h2 s.heap.objs.size (.tup [.int (i : Nat), x]) := ⟨by show 2 ≤ sizeLine; decide, [.int i tk, y], .cons ⟨_, rfl⟩ (.cons ru .nil), ⟨_, hT2, rfl, _, rfl⟩⟩
    have kp : ∀ b ob, b ∉ [e, it] → s.heap.get? b = some ob → h2.get? b = some ob := fun b ob hb q => (sb.2 b fun z => hb (by simp [z])).trans (hk b ob (fun z => hb (by simp [z])) (fun z => hb (by simp [z])) q)
    have I1 : Inv X pins σ (upd H s.heap.objs.size (.tup [.int (i : Nat), x])) { s with heap := h2, toks := tk + 1 } := I.turnedNew (ch := [e, it]) kp hf (Nat.le_refl _) new
    refine ⟨.ref s.heap.objs.size, _, I1, rfl, ⟨_, x, rfl, I.hok.fresh (Nat.le_refl _), rfl, fun ys hy => by rw [I.tuple_inj hy hq]; exact hx⟩, ⟨⟨y, ?_⟩, hit'.at fun o q => (sb.2 it (Ne.symm hne)).trans q, hne⟩, fun b hb => ?_⟩
    · have e1 : ((i + 1 : Nat) : Int) = (i : Int) + 1 := by omega
      rw [e1]
      exact he2
    · have hb' : b < s.heap.objs.size := by
        rcases (by simpa using hb : b = e ∨ b = it) with z | z <;> subst z
        · exact lte
        · exact lti
      rw [upd_ne (Nat.ne_of_lt hb')]
      exact (hf b hb).1
  done := by
    intro X hP hw hK hc i pins s σ H E I hf st hg
    subst hP hw hK
    obtain ⟨⟨old, he⟩, hit, hne⟩ := st
    obtain ⟨xs, hq, hx⟩ := hg
    obtain ⟨its, rv, p, hz⟩ := I.tuple hq
    obtain ⟨f0, f1, f2, f3, f4, f5⟩ := hf it (by simp)
    have hl := rv.length
    have en : i = its.toArray.size := by
      have z : its.toArray.size = its.length := by simp
      omega
    subst en
    exact wpAny_pyNext_enum_endD (Draws.tuple (A := X.A.in1) (I.ok.hd hc) it a hai its.toArray) he ⟨hit, p⟩ fun h' eb => ⟨rfl, I.turned (t' := s.toks) (fun b o hb q => eb b o hb q) f0 f1 f3 f4 f5⟩
  self := fun A i s Q E st h => by
    obtain ⟨⟨_, he⟩, _⟩ := st
    exact wpAny_pyIter_enum he h
def iEnumT (K : PySem.W.Frag) (ta : TA) : TI := fun σ H R => ta σ H fun vs H1 => ∃ a xs, vs = [.ref a] ∧ SqT K H1 a xs ∧ R (IteT K a) H1
theorem pi_enumT {X : Cx} {e : Expr} {ta : TA} {p pos tpos : Pos} {elts : List Expr} {kk : Nat} (hg : Gl X "enumerate") (hm : X.mg "enumerate" = none) (ha : PA X [e] ta) (hs : starEach [e] X.env = [(false, eval e X.env)] := by rfl) :
    PI X (.Tuple elts kk tpos) (.Call (.Name "enumerate" p) [e] [] pos) (iEnumT X.K ta) := by
  refine ⟨fun pins s σ H R I h => ?_⟩
  refine Call_ (ld_blt I hg hm boot_enumerate (PyProof.Rows.callWith_type1 (thn (ha.run pos pins s σ H _ I h) fun us s1 ⟨vs, H1, I1, r1, q1⟩ => ?_) hs rfl))
  obtain ⟨a, xs, ex, hq, q⟩ := q1
  subst ex
  cases r1 with
  | cons r rr =>
    cases rr
    cases r
    obtain ⟨its, rv, pt, hz⟩ := I1.tuple hq
    have lta : a < s1.heap.objs.size := by
      obtain ⟨_, z, _⟩ := pt
      exact Heap.lt_size z
    refine enum_begins1 (begins_tuple a its.toArray) pt fun h' he hit hsz hk => wpAny_pyIter_enum he ?_
    have I2 : Inv X pins σ H1 { s1 with heap := h' } := I1.kept (t' := s1.toks) hk
    refine ⟨s1.heap.objs.size + 1, [s1.heap.objs.size + 1, s1.heap.objs.size], _, _, H1, rfl, I2, turn_enumT a (s1.heap.objs.size + 1) s1.heap.objs.size (Nat.ne_of_lt (Nat.lt_succ_of_lt lta)) (Nat.ne_of_lt lta), ⟨⟨.none, he⟩, ⟨_, hit, rfl, rfl⟩, Nat.succ_ne_self _⟩, fun b hb => ?_, q⟩
    have hle : s1.heap.objs.size ≤ b := by
      rcases (by simpa using hb : b = s1.heap.objs.size + 1 ∨ b = s1.heap.objs.size) with z | z <;> subst z
      · exact Nat.le_add_right _ _
      · exact Nat.le_refl _
    exact I1.fpOk hle (I1.hok.fresh hle)
theorem for_enumT {K : PySem.W.Frag} {a : Addr} {xs : List V} {g : TG} {tb : TS} {D : Ends} {σ : L2.St} {H : Hp} (Pv : Nat → L2.St → Hp → Prop) (h0 : Pv 0 σ H) (hq : ∀ i σ H, Pv i σ H → SqT K H a xs)
    (hs : ∀ (i : Nat) (x : V) (T : Addr) (σ : L2.St) (H : Hp), xs[i]? = some x → Pv i σ H → H T = none → g (.ref T) σ (upd H T (.tup [.int (i : Nat), x])) fun σ2 H2 => tb { D with nx := Pv (i + 1), ct := Pv (i + 1), bk := D.nx } σ2 H2)
    (hd : ∀ σ H, Pv xs.length σ H → D.nx σ H) :
    ∃ W : Nat → Nat → L2.St → Hp → Prop, (∃ m, W 0 m σ H) ∧ ∀ i m σ H, W i m σ H → ((IteT K a).stop i H ∧ D.nx σ H) ∨ ((IteT K a).go i H ∧ ∃ N : L2.St → Hp → Prop, (∀ σ' H', N σ' H' → ∃ m', m' < m ∧ W (i + 1) m' σ' H') ∧
      ∀ x H', (IteT K a).yld i H x H' → g x σ H' fun σ2 H2 => tb { D with nx := N, ct := N, bk := D.nx } σ2 H2) := by
  refine ⟨fun i m σ H => m = xs.length - i ∧ i ≤ xs.length ∧ Pv i σ H, ⟨xs.length, by simp, Nat.zero_le _, h0⟩, ?_⟩
  rintro i m σ H ⟨em, hi, p⟩
  have hl := hq i σ H p
  by_cases e : i = xs.length
  · subst e
    exact .inl ⟨⟨xs, hl, rfl⟩, hd σ H p⟩
  · have lt : i < xs.length := by omega
    refine .inr ⟨⟨xs, xs[i], hl, List.getElem?_eq_getElem lt⟩, Pv (i + 1), fun σ' H' q => ⟨xs.length - (i + 1), by omega, rfl, lt, q⟩, ?_⟩
    rintro v H' ⟨T, x, rfl, hT, rfl, hx⟩
    exact hs i x T σ H (hx xs hl) p hT
end G57
end
section
set_option maxRecDepth 100000
set_option maxHeartbeats 4000000
/-! XRead: readings, one small step a rule (r_..). Each is the reading itself, folded. -/
namespace G57
open PySem PySem.Spec PyProof.Rows L2
section
variable {K : PySem.W.Frag} {σ : L2.St} {H H1 : Hp} {Q : VK} {v x y : V} {ta tb tc te : TE} {D : Ends} {t u : TS} {c : TT} {A B : Prop}
/-! ### expressions -/
theorem r_var {i : Nat} (h : σ[i]? = some (some v)) (q : Q v H) : tVar i σ H Q := ⟨v, h, q⟩
theorem r_c (q : Q v H) : tC v σ H Q := q
theorem r_op {r : R2} (q : ta σ H fun x H1 => tb σ H1 fun y H2 => r x y H2 Q) : tOp r ta tb σ H Q := q
theorem r_un {r : V → Hp → VK → Prop} (q : ta σ H fun x H1 => r x H1 Q) : tUn r ta σ H Q := q
theorem r_I0 {g : Int → Int → V} {i j : Int} (q : Q (g i j) H) : rI0 g (.int i) (.int j) H Q := ⟨i, j, rfl, rfl, q⟩
theorem r_I {C : Int → Int → Prop} {g : Int → Int → V} {i j : Int} (h : C i j) (q : Q (g i j) H) : rI C g (.int i) (.int j) H Q := ⟨i, j, rfl, rfl, h, q⟩
theorem r_U {g : Int → V} {i : Int} (q : Q (g i) H) : rU g (.int i) H Q := ⟨i, rfl, q⟩
theorem r_cmp {p : Int → Int → Bool} (q : ta σ H fun x H1 => tb σ H1 fun y H2 => ∃ i j, x = .int i ∧ y = .int j ∧ Q (.bl (p i j)) H2) : tCmp p ta tb σ H Q := q
theorem r_ii {k : Int → Int → Hp → Prop} {i j : Int} (q : k i j H) : ∃ i' j', V.int i = .int i' ∧ V.int j = .int j' ∧ k i' j' H := ⟨i, j, rfl, rfl, q⟩
theorem r_isN (q : ta σ H fun x H1 => Q (.bl (decide (x = .non))) H1) : tIsN ta σ H Q := q
theorem r_notN (q : ta σ H fun x H1 => Q (.bl (!decide (x = .non))) H1) : tNotN ta σ H Q := q
/-- a field's read, by values -/
def FldR (K : PySem.W.Frag) (f : Str) (Q : VK) (x : V) (H : Hp) : Prop := ∃ a C dx fs v, x = .ref a ∧ H a = some (.ins C dx fs) ∧ Cls K C ∧ NoAttr K C f ∧ fs.lookup f = some v ∧ Q v H
theorem r_fld {f : Str} (q : ta σ H (FldR K f Q)) : tFld K ta f σ H Q := q
theorem r_fldR {f : Str} {a C dx : Addr} {fs : List (Str × V)} (h : H a = some (.ins C dx fs)) (c : Cls K C) (n : NoAttr K C f) (l : fs.lookup f = some v) (q : Q v H) : FldR K f Q (.ref a) H := ⟨a, C, dx, fs, v, rfl, h, c, n, l, q⟩
/-- a method's call, its receiver known -/
def MetR (C : Addr) (m : Str) (sp : Sp) (dvs : List V) (E : XK) (t : TA) (σ : L2.St) (Q : VK) (x : V) (H : Hp) : Prop := ∃ a dx fs, x = .ref a ∧ H a = some (.ins C dx fs) ∧ fs.lookup m = none ∧ t σ H fun vs H2 => sp (x :: (vs ++ dvs)) H2 Q E
theorem r_met {C : Addr} {m : Str} {sp : Sp} {dvs : List V} {E : XK} {t : TA} (q : ta σ H (MetR C m sp dvs E t σ Q)) : tMeth C m sp dvs E ta t σ H Q := q
theorem r_metR {C a dx : Addr} {m : Str} {sp : Sp} {E : XK} {t : TA} {fs : List (Str × V)} (h : H a = some (.ins C dx fs)) (l : fs.lookup m = none) (q : t σ H fun vs H2 => sp (.ref a :: vs) H2 Q E) : MetR C m sp [] E t σ Q (.ref a) H :=
  ⟨a, dx, fs, rfl, h, l, by
    have e : (fun vs H2 => sp (V.ref a :: (vs ++ [])) H2 Q E) = fun vs H2 => sp (.ref a :: vs) H2 Q E := by
      funext vs H2
      rw [List.append_nil]
    rw [e]
    exact q⟩
theorem r_call {sp : Sp} {E : XK} {t : TA} (q : t σ H fun vs H1 => sp vs H1 Q E) : tCall sp [] E t σ H Q := by
  have e : (fun vs H2 => sp (vs ++ []) H2 Q E) = fun vs H2 => sp vs H2 Q E := by
    funext vs H2
    rw [List.append_nil]
  show t σ H fun vs H2 => sp (vs ++ []) H2 Q E
  rw [e]
  exact q
/-- a class called, its arguments known -/
def MakR (C : Addr) (sp : Sp) (E : XK) (Q : VK) (vs : List V) (H1 : Hp) : Prop := ∀ x dx, H1 x = none → H1 dx = none → dx ≠ x → sp (.ref x :: vs) (upd (upd H1 dx (.own x)) x (.ins C dx [])) (fun v H2 => v = .non ∧ Q (.ref x) H2) E
theorem r_make {C : Addr} {sp : Sp} {E : XK} {t : TA} (q : t σ H (MakR C sp E Q)) : tMake C sp [] E t σ H Q := by
  have e : (fun vs H1 => ∀ x dx, H1 x = none → H1 dx = none → dx ≠ x → sp (.ref x :: (vs ++ [])) (upd (upd H1 dx (.own x)) x (.ins C dx [])) (fun v H2 => v = .non ∧ Q (.ref x) H2) E) = MakR C sp E Q := by
    funext vs H2
    rw [List.append_nil]
    rfl
  show t σ H fun vs H1 => ∀ x dx, H1 x = none → H1 dx = none → dx ≠ x → sp (.ref x :: (vs ++ [])) (upd (upd H1 dx (.own x)) x (.ins C dx [])) (fun v H2 => v = .non ∧ Q (.ref x) H2) E
  rw [e]
  exact q
theorem r_prop {C : Addr} {sp : Sp} {E : XK} (q : ta σ H fun x H1 => ∃ a dx fs, x = .ref a ∧ H1 a = some (.ins C dx fs) ∧ sp [.ref a] H1 Q E) : tProp C sp [] E ta σ H Q := q
theorem r_propR {C a dx : Addr} {sp : Sp} {E : XK} {fs : List (Str × V)} (h : H a = some (.ins C dx fs)) (q : sp [.ref a] H Q E) : ∃ a' dx fs, V.ref a = .ref a' ∧ H a' = some (.ins C dx fs) ∧ sp [.ref a'] H Q E := ⟨a, dx, fs, rfl, h, q⟩
theorem r_nil {Q : List V → Hp → Prop} (q : Q [] H) : tNil σ H Q := q
theorem r_cons {tr : TA} {Q : List V → Hp → Prop} (q : ta σ H fun x H1 => tr σ H1 fun xs H2 => Q (x :: xs) H2) : tCons ta tr σ H Q := q
theorem r_cb {r : List V → Hp → VK → Prop} {t : TA} (q : t σ H fun vs H1 => r vs H1 Q) : tCB r t σ H Q := q
theorem r_max {i j : Int} (q : Q (.int (max i j)) H) : rMx [V.int i, V.int j] H Q := ⟨i, j, rfl, q⟩
theorem r_min {i j : Int} (q : Q (.int (min i j)) H) : rMn [V.int i, V.int j] H Q := ⟨i, j, rfl, q⟩
theorem r_int1 {i : Int} (q : Q (.int i) H) : rInt [V.int i] H Q := .inl ⟨i, rfl, q⟩
theorem r_intb {b : Bool} (q : Q (.int (if b then 1 else 0)) H) : rInt [V.bl b] H Q := .inr ⟨b, rfl, q⟩
theorem r_lenL {a : Addr} {xs : List V} (h : SqL K H a xs) (q : Q (.int xs.length) H) : rLenQ K [V.ref a] H Q := ⟨a, xs, rfl, .inl h, q⟩
theorem r_lenT {a : Addr} {xs : List V} (h : SqT K H a xs) (q : Q (.int xs.length) H) : rLenQ K [V.ref a] H Q := ⟨a, xs, rfl, .inr h, q⟩
theorem r_listL {a : Addr} {xs : List V} (h : SqL K H a xs) (q : ∀ p, H p = none → Q (.ref p) (upd H p (.lst xs))) : rListQ K [V.ref a] H Q := ⟨a, xs, rfl, .inl h, q⟩
theorem r_listT {a : Addr} {xs : List V} (h : SqT K H a xs) (q : ∀ p, H p = none → Q (.ref p) (upd H p (.lst xs))) : rListQ K [V.ref a] H Q := ⟨a, xs, rfl, .inr h, q⟩
theorem r_tupL {a : Addr} {xs : List V} (h : SqL K H a xs) (q : ∀ p, H p = none → Q (.ref p) (upd H p (.tup xs))) : rTupLQ K [V.ref a] H Q := ⟨a, xs, rfl, h, q⟩
theorem r_tupT {a : Addr} {xs : List V} (h : SqT K H a xs) (q : Q (.ref a) H) : rTupTQ K [V.ref a] H Q := ⟨a, xs, rfl, h, q⟩
theorem r_ixL {a : Addr} {xs : List V} {i : Int} {j : Nat} (h : SqL K H a xs) (e : i = (j : Int)) (l : xs[j]? = some v) (q : Q v H) : rIxL K (.ref a) (.int i) H Q := ⟨a, xs, i, v, rfl, rfl, h, at_of e l, q⟩
theorem r_ixT {a : Addr} {xs : List V} {i : Int} {j : Nat} (h : SqT K H a xs) (e : i = (j : Int)) (l : xs[j]? = some v) (q : Q v H) : rIxT K (.ref a) (.int i) H Q := ⟨a, xs, i, v, rfl, rfl, h, at_of e l, q⟩
theorem r_ixLa {a : Addr} {xs : List V} {i : Int} (h : SqL K H a xs) (l : atI xs i = some v) (q : Q v H) : rIxL K (.ref a) (.int i) H Q := ⟨a, xs, i, v, rfl, rfl, h, l, q⟩
theorem r_if {tt : TT} (q : tt σ H fun c H1 => if c = true then ta σ H1 Q else tb σ H1 Q) : tIf tt ta tb σ H Q := q
/-- a new tuple, a new list, by values -/
def NwT (Q : VK) (xs : List V) (H : Hp) : Prop := xs.length ≤ sizeLine ∧ ∀ p, H p = none → Q (.ref p) (upd H p (.tup xs))
def NwL (Q : VK) (xs : List V) (H : Hp) : Prop := xs.length ≤ sizeLine ∧ ∀ p, H p = none → Q (.ref p) (upd H p (.lst xs))
theorem r_tup {t : TA} (q : t σ H (NwT Q)) : tTup t σ H Q := q
theorem r_lst {t : TA} (q : t σ H (NwL Q)) : tLst t σ H Q := q
theorem r_nwT {xs : List V} (h : xs.length ≤ 1000) (q : ∀ p, H p = none → Q (.ref p) (upd H p (.tup xs))) : NwT Q xs H := ⟨Nat.le_trans h (by decide), q⟩
theorem r_nwL {xs : List V} (h : xs.length ≤ 1000) (q : ∀ p, H p = none → Q (.ref p) (upd H p (.lst xs))) : NwL Q xs H := ⟨Nat.le_trans h (by decide), q⟩
theorem r_bm {T : String} {r : V → List V → Hp → VK → Prop} {t : TA} (q : ta σ H fun x H1 => tyV K T x H1 ∧ t σ H1 fun xs H2 => r x xs H2 Q) : tBM K T r ta t σ H Q := q
theorem r_bm0 {T : String} {r : V → List V → Hp → VK → Prop} (q : ta σ H fun x H1 => tyV K T x H1 ∧ r x [] H1 Q) : tBM0 K T r ta σ H Q := q
theorem r_tyL {a : Addr} {xs : List V} (h : SqL K H a xs) (q : A) : tyV K "list" (.ref a) H ∧ A := ⟨.inl ⟨rfl, xs, h⟩, q⟩
theorem r_append {a : Addr} {xs : List V} (h : H a = some (.lst xs)) (l : xs.length < 100000) (q : Q .non (upd H a (.lst (xs ++ [v])))) : rAppend (.ref a) [v] H Q := ⟨a, xs, v, rfl, rfl, h, Nat.lt_of_lt_of_le l (by decide), q⟩
theorem r_pop {a : Addr} {xs : List V} (h : H a = some (.lst xs)) (l : xs[xs.length - 1]? = some v) (q : Q v (upd H a (.lst xs.dropLast))) : rPop (.ref a) [] H Q := ⟨a, xs, v, rfl, rfl, h, l, q⟩
theorem r_sumT {a : Addr} {ns : List Int} (h : SqT K H a (ns.map V.int)) (q : Q (.int ns.sum) H) : rSumT K [V.ref a] H Q := ⟨a, ns, rfl, h, q⟩
theorem r_sumL {a : Addr} {ns : List Int} (h : SqL K H a (ns.map V.int)) (q : Q (.int ns.sum) H) : rSum K [V.ref a] H Q := ⟨a, ns, rfl, h, q⟩
/-! ### tests -/
theorem r_B {Q : Bool → Hp → Prop} (q : te σ H fun x H1 => ∃ c, x = .bl c ∧ Q c H1) : tB te σ H Q := q
theorem r_test {Q : Bool → Hp → Prop} (q : te σ H fun x H1 => ∃ c, x = .bl c ∧ Q c H1) : tTest te σ H Q := q
theorem r_b {k : Bool → Hp → Prop} {b : Bool} (q : k b H) : ∃ c, V.bl b = .bl c ∧ k c H := ⟨b, rfl, q⟩
theorem r_b' {k : Bool → Prop} {b : Bool} (q : k b) : ∃ c, V.bl b = .bl c ∧ k c := ⟨b, rfl, q⟩
theorem r_and {tA tB' : TT} {Q : Bool → Hp → Prop} (q : tA σ H fun c H1 => if c = true then tB' σ H1 Q else Q false H1) : tAnd tA tB' σ H Q := q
theorem r_or {tA tB' : TT} {Q : Bool → Hp → Prop} (q : tA σ H fun c H1 => if c = true then Q true H1 else tB' σ H1 Q) : tOr tA tB' σ H Q := q
theorem r_not {tA : TT} {Q : Bool → Hp → Prop} (q : tA σ H fun c H1 => Q (!c) H1) : tNot tA σ H Q := q
theorem r_chain {r r' : R2} (q : ta σ H fun x H1 => tb σ H1 fun y H2 => r x y H2 fun z H3 => ∃ k, z = .bl k ∧ (if k = true then tc σ H3 fun w' H4 => r' y w' H4 Q else Q (.bl false) H3)) : tChain r r' ta tb tc σ H Q := q
theorem r_andV (q : ta σ H fun x H1 => ∃ c, x = .bl c ∧ if c = true then tb σ H1 Q else Q (.bl false) H1) : tAndV ta tb σ H Q := q
theorem r_orV (q : ta σ H fun x H1 => ∃ c, x = .bl c ∧ if c = true then Q (.bl true) H1 else tb σ H1 Q) : tOrV ta tb σ H Q := q
theorem r_notV (q : ta σ H fun x H1 => ∃ c, x = .bl c ∧ Q (.bl (!c)) H1) : tNotV ta σ H Q := q
theorem i2 {p : Prop} [Decidable p] (h1 : p → A) (h2 : ¬ p → B) : if decide p = true then A else B := by
  by_cases h : p
  · rw [if_pos (decide_eq_true h)]
    exact h1 h
  · rw [if_neg (by rw [decide_eq_false h]; exact Bool.false_ne_true)]
    exact h2 h
theorem i2n {p : Prop} [Decidable p] (h1 : ¬ p → A) (h2 : p → B) : if (!decide p) = true then A else B := by
  by_cases h : p
  · rw [decide_eq_true h]
    exact iteF (h2 h)
  · rw [decide_eq_false h]
    exact iteT (h1 h)
theorem i2b {b : Bool} (h1 : b = true → A) (h2 : b = false → B) : if b = true then A else B := by
  cases b with
  | true => exact iteT (h1 rfl)
  | false => exact iteF (h2 rfl)
theorem i2bn {b : Bool} (h1 : b = false → A) (h2 : b = true → B) : if (!b) = true then A else B := by
  cases b with
  | true => exact iteF (h2 rfl)
  | false => exact iteT (h1 rfl)
theorem iT (q : A) : if true = true then A else B := iteT q
theorem iF (q : B) : if false = true then A else B := iteF q
theorem iNT (q : B) : if (!true) = true then A else B := iteF q
theorem iNF (q : A) : if (!false) = true then A else B := iteT q
theorem iOF (q : B) : if (false || false) = true then A else B := iteF q
theorem iY {p : Prop} [Decidable p] (h : p) (q : A) : if decide p = true then A else B := i2 (fun _ => q) fun z => absurd h z
theorem iN {p : Prop} [Decidable p] (h : ¬ p) (q : B) : if decide p = true then A else B := i2 (fun z => absurd z h) fun _ => q
/-! ### statements -/
theorem r_seq (q : t { D with nx := u D } σ H) : tSeq t u D σ H := q
theorem r_next (q : D.nx σ H) : tNext D σ H := q
/-- slot i is given v, N goes on -/
def SetR (i : Nat) (v : V) (N : L2.St → Prop) (σ : L2.St) : Prop := N (σ.set i (some v))
theorem v_id {i : Nat} (q : tVar i σ H Q) : tVar i σ H Q := q
theorem s_id {i : Nat} {N : L2.St → Prop} (q : SetR i v N σ) : SetR i v N σ := q
theorem st_cons {n : Str} {N : List Str} {vs : List V} : L2.start (n :: N) (v :: vs) = some v :: L2.start N vs := by
  unfold L2.start
  simp
theorem st_none {n : Str} {N : List Str} : L2.start (n :: N) [] = none :: L2.start N [] := rfl
theorem st_nn : L2.start [] [] = [] := rfl
theorem r_setU {i : Nat} {N : L2.St → Prop} (q : N (σ.set i (some v))) : SetR i v N σ := q
theorem r_set_0 {a0 : Option V} {r : List (Option V)} {N : L2.St → Prop} (q : N (some v :: r)) : SetR 0 v N (a0 :: r) := q
theorem r_var_0 {r : List (Option V)} (q : Q v H) : tVar 0 (some v :: r) H Q := ⟨v, rfl, q⟩
theorem r_set_1 {a0 a1 : Option V} {r : List (Option V)} {N : L2.St → Prop} (q : N (a0 :: some v :: r)) : SetR 1 v N (a0 :: a1 :: r) := q
theorem r_var_1 {a0 : Option V} {r : List (Option V)} (q : Q v H) : tVar 1 (a0 :: some v :: r) H Q := ⟨v, rfl, q⟩
theorem r_set_2 {a0 a1 a2 : Option V} {r : List (Option V)} {N : L2.St → Prop} (q : N (a0 :: a1 :: some v :: r)) : SetR 2 v N (a0 :: a1 :: a2 :: r) := q
theorem r_var_2 {a0 a1 : Option V} {r : List (Option V)} (q : Q v H) : tVar 2 (a0 :: a1 :: some v :: r) H Q := ⟨v, rfl, q⟩
theorem r_set_3 {a0 a1 a2 a3 : Option V} {r : List (Option V)} {N : L2.St → Prop} (q : N (a0 :: a1 :: a2 :: some v :: r)) : SetR 3 v N (a0 :: a1 :: a2 :: a3 :: r) := q
theorem r_var_3 {a0 a1 a2 : Option V} {r : List (Option V)} (q : Q v H) : tVar 3 (a0 :: a1 :: a2 :: some v :: r) H Q := ⟨v, rfl, q⟩
theorem r_set_4 {a0 a1 a2 a3 a4 : Option V} {r : List (Option V)} {N : L2.St → Prop} (q : N (a0 :: a1 :: a2 :: a3 :: some v :: r)) : SetR 4 v N (a0 :: a1 :: a2 :: a3 :: a4 :: r) := q
theorem r_var_4 {a0 a1 a2 a3 : Option V} {r : List (Option V)} (q : Q v H) : tVar 4 (a0 :: a1 :: a2 :: a3 :: some v :: r) H Q := ⟨v, rfl, q⟩
theorem r_set_5 {a0 a1 a2 a3 a4 a5 : Option V} {r : List (Option V)} {N : L2.St → Prop} (q : N (a0 :: a1 :: a2 :: a3 :: a4 :: some v :: r)) : SetR 5 v N (a0 :: a1 :: a2 :: a3 :: a4 :: a5 :: r) := q
theorem r_var_5 {a0 a1 a2 a3 a4 : Option V} {r : List (Option V)} (q : Q v H) : tVar 5 (a0 :: a1 :: a2 :: a3 :: a4 :: some v :: r) H Q := ⟨v, rfl, q⟩
theorem r_set_6 {a0 a1 a2 a3 a4 a5 a6 : Option V} {r : List (Option V)} {N : L2.St → Prop} (q : N (a0 :: a1 :: a2 :: a3 :: a4 :: a5 :: some v :: r)) : SetR 6 v N (a0 :: a1 :: a2 :: a3 :: a4 :: a5 :: a6 :: r) := q
theorem r_var_6 {a0 a1 a2 a3 a4 a5 : Option V} {r : List (Option V)} (q : Q v H) : tVar 6 (a0 :: a1 :: a2 :: a3 :: a4 :: a5 :: some v :: r) H Q := ⟨v, rfl, q⟩
theorem r_set_7 {a0 a1 a2 a3 a4 a5 a6 a7 : Option V} {r : List (Option V)} {N : L2.St → Prop} (q : N (a0 :: a1 :: a2 :: a3 :: a4 :: a5 :: a6 :: some v :: r)) : SetR 7 v N (a0 :: a1 :: a2 :: a3 :: a4 :: a5 :: a6 :: a7 :: r) := q
theorem r_var_7 {a0 a1 a2 a3 a4 a5 a6 : Option V} {r : List (Option V)} (q : Q v H) : tVar 7 (a0 :: a1 :: a2 :: a3 :: a4 :: a5 :: a6 :: some v :: r) H Q := ⟨v, rfl, q⟩
theorem r_set_8 {a0 a1 a2 a3 a4 a5 a6 a7 a8 : Option V} {r : List (Option V)} {N : L2.St → Prop} (q : N (a0 :: a1 :: a2 :: a3 :: a4 :: a5 :: a6 :: a7 :: some v :: r)) : SetR 8 v N (a0 :: a1 :: a2 :: a3 :: a4 :: a5 :: a6 :: a7 :: a8 :: r) := q
theorem r_var_8 {a0 a1 a2 a3 a4 a5 a6 a7 : Option V} {r : List (Option V)} (q : Q v H) : tVar 8 (a0 :: a1 :: a2 :: a3 :: a4 :: a5 :: a6 :: a7 :: some v :: r) H Q := ⟨v, rfl, q⟩
theorem r_set_9 {a0 a1 a2 a3 a4 a5 a6 a7 a8 a9 : Option V} {r : List (Option V)} {N : L2.St → Prop} (q : N (a0 :: a1 :: a2 :: a3 :: a4 :: a5 :: a6 :: a7 :: a8 :: some v :: r)) : SetR 9 v N (a0 :: a1 :: a2 :: a3 :: a4 :: a5 :: a6 :: a7 :: a8 :: a9 :: r) := q
theorem r_var_9 {a0 a1 a2 a3 a4 a5 a6 a7 a8 : Option V} {r : List (Option V)} (q : Q v H) : tVar 9 (a0 :: a1 :: a2 :: a3 :: a4 :: a5 :: a6 :: a7 :: a8 :: some v :: r) H Q := ⟨v, rfl, q⟩
theorem r_set_10 {a0 a1 a2 a3 a4 a5 a6 a7 a8 a9 a10 : Option V} {r : List (Option V)} {N : L2.St → Prop} (q : N (a0 :: a1 :: a2 :: a3 :: a4 :: a5 :: a6 :: a7 :: a8 :: a9 :: some v :: r)) : SetR 10 v N (a0 :: a1 :: a2 :: a3 :: a4 :: a5 :: a6 :: a7 :: a8 :: a9 :: a10 :: r) := q
theorem r_var_10 {a0 a1 a2 a3 a4 a5 a6 a7 a8 a9 : Option V} {r : List (Option V)} (q : Q v H) : tVar 10 (a0 :: a1 :: a2 :: a3 :: a4 :: a5 :: a6 :: a7 :: a8 :: a9 :: some v :: r) H Q := ⟨v, rfl, q⟩
theorem r_set_11 {a0 a1 a2 a3 a4 a5 a6 a7 a8 a9 a10 a11 : Option V} {r : List (Option V)} {N : L2.St → Prop} (q : N (a0 :: a1 :: a2 :: a3 :: a4 :: a5 :: a6 :: a7 :: a8 :: a9 :: a10 :: some v :: r)) : SetR 11 v N (a0 :: a1 :: a2 :: a3 :: a4 :: a5 :: a6 :: a7 :: a8 :: a9 :: a10 :: a11 :: r) := q
theorem r_var_11 {a0 a1 a2 a3 a4 a5 a6 a7 a8 a9 a10 : Option V} {r : List (Option V)} (q : Q v H) : tVar 11 (a0 :: a1 :: a2 :: a3 :: a4 :: a5 :: a6 :: a7 :: a8 :: a9 :: a10 :: some v :: r) H Q := ⟨v, rfl, q⟩
theorem r_set_12 {a0 a1 a2 a3 a4 a5 a6 a7 a8 a9 a10 a11 a12 : Option V} {r : List (Option V)} {N : L2.St → Prop} (q : N (a0 :: a1 :: a2 :: a3 :: a4 :: a5 :: a6 :: a7 :: a8 :: a9 :: a10 :: a11 :: some v :: r)) : SetR 12 v N (a0 :: a1 :: a2 :: a3 :: a4 :: a5 :: a6 :: a7 :: a8 :: a9 :: a10 :: a11 :: a12 :: r) := q
theorem r_var_12 {a0 a1 a2 a3 a4 a5 a6 a7 a8 a9 a10 a11 : Option V} {r : List (Option V)} (q : Q v H) : tVar 12 (a0 :: a1 :: a2 :: a3 :: a4 :: a5 :: a6 :: a7 :: a8 :: a9 :: a10 :: a11 :: some v :: r) H Q := ⟨v, rfl, q⟩
theorem r_set_13 {a0 a1 a2 a3 a4 a5 a6 a7 a8 a9 a10 a11 a12 a13 : Option V} {r : List (Option V)} {N : L2.St → Prop} (q : N (a0 :: a1 :: a2 :: a3 :: a4 :: a5 :: a6 :: a7 :: a8 :: a9 :: a10 :: a11 :: a12 :: some v :: r)) : SetR 13 v N (a0 :: a1 :: a2 :: a3 :: a4 :: a5 :: a6 :: a7 :: a8 :: a9 :: a10 :: a11 :: a12 :: a13 :: r) := q
theorem r_var_13 {a0 a1 a2 a3 a4 a5 a6 a7 a8 a9 a10 a11 a12 : Option V} {r : List (Option V)} (q : Q v H) : tVar 13 (a0 :: a1 :: a2 :: a3 :: a4 :: a5 :: a6 :: a7 :: a8 :: a9 :: a10 :: a11 :: a12 :: some v :: r) H Q := ⟨v, rfl, q⟩
theorem r_set_14 {a0 a1 a2 a3 a4 a5 a6 a7 a8 a9 a10 a11 a12 a13 a14 : Option V} {r : List (Option V)} {N : L2.St → Prop} (q : N (a0 :: a1 :: a2 :: a3 :: a4 :: a5 :: a6 :: a7 :: a8 :: a9 :: a10 :: a11 :: a12 :: a13 :: some v :: r)) : SetR 14 v N (a0 :: a1 :: a2 :: a3 :: a4 :: a5 :: a6 :: a7 :: a8 :: a9 :: a10 :: a11 :: a12 :: a13 :: a14 :: r) := q
theorem r_var_14 {a0 a1 a2 a3 a4 a5 a6 a7 a8 a9 a10 a11 a12 a13 : Option V} {r : List (Option V)} (q : Q v H) : tVar 14 (a0 :: a1 :: a2 :: a3 :: a4 :: a5 :: a6 :: a7 :: a8 :: a9 :: a10 :: a11 :: a12 :: a13 :: some v :: r) H Q := ⟨v, rfl, q⟩
theorem r_set_15 {a0 a1 a2 a3 a4 a5 a6 a7 a8 a9 a10 a11 a12 a13 a14 a15 : Option V} {r : List (Option V)} {N : L2.St → Prop} (q : N (a0 :: a1 :: a2 :: a3 :: a4 :: a5 :: a6 :: a7 :: a8 :: a9 :: a10 :: a11 :: a12 :: a13 :: a14 :: some v :: r)) : SetR 15 v N (a0 :: a1 :: a2 :: a3 :: a4 :: a5 :: a6 :: a7 :: a8 :: a9 :: a10 :: a11 :: a12 :: a13 :: a14 :: a15 :: r) := q
theorem r_var_15 {a0 a1 a2 a3 a4 a5 a6 a7 a8 a9 a10 a11 a12 a13 a14 : Option V} {r : List (Option V)} (q : Q v H) : tVar 15 (a0 :: a1 :: a2 :: a3 :: a4 :: a5 :: a6 :: a7 :: a8 :: a9 :: a10 :: a11 :: a12 :: a13 :: a14 :: some v :: r) H Q := ⟨v, rfl, q⟩
theorem r_set_16 {a0 a1 a2 a3 a4 a5 a6 a7 a8 a9 a10 a11 a12 a13 a14 a15 a16 : Option V} {r : List (Option V)} {N : L2.St → Prop} (q : N (a0 :: a1 :: a2 :: a3 :: a4 :: a5 :: a6 :: a7 :: a8 :: a9 :: a10 :: a11 :: a12 :: a13 :: a14 :: a15 :: some v :: r)) : SetR 16 v N (a0 :: a1 :: a2 :: a3 :: a4 :: a5 :: a6 :: a7 :: a8 :: a9 :: a10 :: a11 :: a12 :: a13 :: a14 :: a15 :: a16 :: r) := q
theorem r_var_16 {a0 a1 a2 a3 a4 a5 a6 a7 a8 a9 a10 a11 a12 a13 a14 a15 : Option V} {r : List (Option V)} (q : Q v H) : tVar 16 (a0 :: a1 :: a2 :: a3 :: a4 :: a5 :: a6 :: a7 :: a8 :: a9 :: a10 :: a11 :: a12 :: a13 :: a14 :: a15 :: some v :: r) H Q := ⟨v, rfl, q⟩
theorem r_set_17 {a0 a1 a2 a3 a4 a5 a6 a7 a8 a9 a10 a11 a12 a13 a14 a15 a16 a17 : Option V} {r : List (Option V)} {N : L2.St → Prop} (q : N (a0 :: a1 :: a2 :: a3 :: a4 :: a5 :: a6 :: a7 :: a8 :: a9 :: a10 :: a11 :: a12 :: a13 :: a14 :: a15 :: a16 :: some v :: r)) : SetR 17 v N (a0 :: a1 :: a2 :: a3 :: a4 :: a5 :: a6 :: a7 :: a8 :: a9 :: a10 :: a11 :: a12 :: a13 :: a14 :: a15 :: a16 :: a17 :: r) := q
theorem r_var_17 {a0 a1 a2 a3 a4 a5 a6 a7 a8 a9 a10 a11 a12 a13 a14 a15 a16 : Option V} {r : List (Option V)} (q : Q v H) : tVar 17 (a0 :: a1 :: a2 :: a3 :: a4 :: a5 :: a6 :: a7 :: a8 :: a9 :: a10 :: a11 :: a12 :: a13 :: a14 :: a15 :: a16 :: some v :: r) H Q := ⟨v, rfl, q⟩
theorem r_set_18 {a0 a1 a2 a3 a4 a5 a6 a7 a8 a9 a10 a11 a12 a13 a14 a15 a16 a17 a18 : Option V} {r : List (Option V)} {N : L2.St → Prop} (q : N (a0 :: a1 :: a2 :: a3 :: a4 :: a5 :: a6 :: a7 :: a8 :: a9 :: a10 :: a11 :: a12 :: a13 :: a14 :: a15 :: a16 :: a17 :: some v :: r)) : SetR 18 v N (a0 :: a1 :: a2 :: a3 :: a4 :: a5 :: a6 :: a7 :: a8 :: a9 :: a10 :: a11 :: a12 :: a13 :: a14 :: a15 :: a16 :: a17 :: a18 :: r) := q
theorem r_var_18 {a0 a1 a2 a3 a4 a5 a6 a7 a8 a9 a10 a11 a12 a13 a14 a15 a16 a17 : Option V} {r : List (Option V)} (q : Q v H) : tVar 18 (a0 :: a1 :: a2 :: a3 :: a4 :: a5 :: a6 :: a7 :: a8 :: a9 :: a10 :: a11 :: a12 :: a13 :: a14 :: a15 :: a16 :: a17 :: some v :: r) H Q := ⟨v, rfl, q⟩
theorem r_set_19 {a0 a1 a2 a3 a4 a5 a6 a7 a8 a9 a10 a11 a12 a13 a14 a15 a16 a17 a18 a19 : Option V} {r : List (Option V)} {N : L2.St → Prop} (q : N (a0 :: a1 :: a2 :: a3 :: a4 :: a5 :: a6 :: a7 :: a8 :: a9 :: a10 :: a11 :: a12 :: a13 :: a14 :: a15 :: a16 :: a17 :: a18 :: some v :: r)) : SetR 19 v N (a0 :: a1 :: a2 :: a3 :: a4 :: a5 :: a6 :: a7 :: a8 :: a9 :: a10 :: a11 :: a12 :: a13 :: a14 :: a15 :: a16 :: a17 :: a18 :: a19 :: r) := q
theorem r_var_19 {a0 a1 a2 a3 a4 a5 a6 a7 a8 a9 a10 a11 a12 a13 a14 a15 a16 a17 a18 : Option V} {r : List (Option V)} (q : Q v H) : tVar 19 (a0 :: a1 :: a2 :: a3 :: a4 :: a5 :: a6 :: a7 :: a8 :: a9 :: a10 :: a11 :: a12 :: a13 :: a14 :: a15 :: a16 :: a17 :: a18 :: some v :: r) H Q := ⟨v, rfl, q⟩
theorem r_set_20 {a0 a1 a2 a3 a4 a5 a6 a7 a8 a9 a10 a11 a12 a13 a14 a15 a16 a17 a18 a19 a20 : Option V} {r : List (Option V)} {N : L2.St → Prop} (q : N (a0 :: a1 :: a2 :: a3 :: a4 :: a5 :: a6 :: a7 :: a8 :: a9 :: a10 :: a11 :: a12 :: a13 :: a14 :: a15 :: a16 :: a17 :: a18 :: a19 :: some v :: r)) : SetR 20 v N (a0 :: a1 :: a2 :: a3 :: a4 :: a5 :: a6 :: a7 :: a8 :: a9 :: a10 :: a11 :: a12 :: a13 :: a14 :: a15 :: a16 :: a17 :: a18 :: a19 :: a20 :: r) := q
theorem r_var_20 {a0 a1 a2 a3 a4 a5 a6 a7 a8 a9 a10 a11 a12 a13 a14 a15 a16 a17 a18 a19 : Option V} {r : List (Option V)} (q : Q v H) : tVar 20 (a0 :: a1 :: a2 :: a3 :: a4 :: a5 :: a6 :: a7 :: a8 :: a9 :: a10 :: a11 :: a12 :: a13 :: a14 :: a15 :: a16 :: a17 :: a18 :: a19 :: some v :: r) H Q := ⟨v, rfl, q⟩
theorem r_set_21 {a0 a1 a2 a3 a4 a5 a6 a7 a8 a9 a10 a11 a12 a13 a14 a15 a16 a17 a18 a19 a20 a21 : Option V} {r : List (Option V)} {N : L2.St → Prop} (q : N (a0 :: a1 :: a2 :: a3 :: a4 :: a5 :: a6 :: a7 :: a8 :: a9 :: a10 :: a11 :: a12 :: a13 :: a14 :: a15 :: a16 :: a17 :: a18 :: a19 :: a20 :: some v :: r)) : SetR 21 v N (a0 :: a1 :: a2 :: a3 :: a4 :: a5 :: a6 :: a7 :: a8 :: a9 :: a10 :: a11 :: a12 :: a13 :: a14 :: a15 :: a16 :: a17 :: a18 :: a19 :: a20 :: a21 :: r) := q
theorem r_var_21 {a0 a1 a2 a3 a4 a5 a6 a7 a8 a9 a10 a11 a12 a13 a14 a15 a16 a17 a18 a19 a20 : Option V} {r : List (Option V)} (q : Q v H) : tVar 21 (a0 :: a1 :: a2 :: a3 :: a4 :: a5 :: a6 :: a7 :: a8 :: a9 :: a10 :: a11 :: a12 :: a13 :: a14 :: a15 :: a16 :: a17 :: a18 :: a19 :: a20 :: some v :: r) H Q := ⟨v, rfl, q⟩
theorem r_set_22 {a0 a1 a2 a3 a4 a5 a6 a7 a8 a9 a10 a11 a12 a13 a14 a15 a16 a17 a18 a19 a20 a21 a22 : Option V} {r : List (Option V)} {N : L2.St → Prop} (q : N (a0 :: a1 :: a2 :: a3 :: a4 :: a5 :: a6 :: a7 :: a8 :: a9 :: a10 :: a11 :: a12 :: a13 :: a14 :: a15 :: a16 :: a17 :: a18 :: a19 :: a20 :: a21 :: some v :: r)) : SetR 22 v N (a0 :: a1 :: a2 :: a3 :: a4 :: a5 :: a6 :: a7 :: a8 :: a9 :: a10 :: a11 :: a12 :: a13 :: a14 :: a15 :: a16 :: a17 :: a18 :: a19 :: a20 :: a21 :: a22 :: r) := q
theorem r_var_22 {a0 a1 a2 a3 a4 a5 a6 a7 a8 a9 a10 a11 a12 a13 a14 a15 a16 a17 a18 a19 a20 a21 : Option V} {r : List (Option V)} (q : Q v H) : tVar 22 (a0 :: a1 :: a2 :: a3 :: a4 :: a5 :: a6 :: a7 :: a8 :: a9 :: a10 :: a11 :: a12 :: a13 :: a14 :: a15 :: a16 :: a17 :: a18 :: a19 :: a20 :: a21 :: some v :: r) H Q := ⟨v, rfl, q⟩
theorem r_set_23 {a0 a1 a2 a3 a4 a5 a6 a7 a8 a9 a10 a11 a12 a13 a14 a15 a16 a17 a18 a19 a20 a21 a22 a23 : Option V} {r : List (Option V)} {N : L2.St → Prop} (q : N (a0 :: a1 :: a2 :: a3 :: a4 :: a5 :: a6 :: a7 :: a8 :: a9 :: a10 :: a11 :: a12 :: a13 :: a14 :: a15 :: a16 :: a17 :: a18 :: a19 :: a20 :: a21 :: a22 :: some v :: r)) : SetR 23 v N (a0 :: a1 :: a2 :: a3 :: a4 :: a5 :: a6 :: a7 :: a8 :: a9 :: a10 :: a11 :: a12 :: a13 :: a14 :: a15 :: a16 :: a17 :: a18 :: a19 :: a20 :: a21 :: a22 :: a23 :: r) := q
theorem r_var_23 {a0 a1 a2 a3 a4 a5 a6 a7 a8 a9 a10 a11 a12 a13 a14 a15 a16 a17 a18 a19 a20 a21 a22 : Option V} {r : List (Option V)} (q : Q v H) : tVar 23 (a0 :: a1 :: a2 :: a3 :: a4 :: a5 :: a6 :: a7 :: a8 :: a9 :: a10 :: a11 :: a12 :: a13 :: a14 :: a15 :: a16 :: a17 :: a18 :: a19 :: a20 :: a21 :: a22 :: some v :: r) H Q := ⟨v, rfl, q⟩
theorem r_set_24 {a0 a1 a2 a3 a4 a5 a6 a7 a8 a9 a10 a11 a12 a13 a14 a15 a16 a17 a18 a19 a20 a21 a22 a23 a24 : Option V} {r : List (Option V)} {N : L2.St → Prop} (q : N (a0 :: a1 :: a2 :: a3 :: a4 :: a5 :: a6 :: a7 :: a8 :: a9 :: a10 :: a11 :: a12 :: a13 :: a14 :: a15 :: a16 :: a17 :: a18 :: a19 :: a20 :: a21 :: a22 :: a23 :: some v :: r)) : SetR 24 v N (a0 :: a1 :: a2 :: a3 :: a4 :: a5 :: a6 :: a7 :: a8 :: a9 :: a10 :: a11 :: a12 :: a13 :: a14 :: a15 :: a16 :: a17 :: a18 :: a19 :: a20 :: a21 :: a22 :: a23 :: a24 :: r) := q
theorem r_var_24 {a0 a1 a2 a3 a4 a5 a6 a7 a8 a9 a10 a11 a12 a13 a14 a15 a16 a17 a18 a19 a20 a21 a22 a23 : Option V} {r : List (Option V)} (q : Q v H) : tVar 24 (a0 :: a1 :: a2 :: a3 :: a4 :: a5 :: a6 :: a7 :: a8 :: a9 :: a10 :: a11 :: a12 :: a13 :: a14 :: a15 :: a16 :: a17 :: a18 :: a19 :: a20 :: a21 :: a22 :: a23 :: some v :: r) H Q := ⟨v, rfl, q⟩
theorem r_set_25 {a0 a1 a2 a3 a4 a5 a6 a7 a8 a9 a10 a11 a12 a13 a14 a15 a16 a17 a18 a19 a20 a21 a22 a23 a24 a25 : Option V} {r : List (Option V)} {N : L2.St → Prop} (q : N (a0 :: a1 :: a2 :: a3 :: a4 :: a5 :: a6 :: a7 :: a8 :: a9 :: a10 :: a11 :: a12 :: a13 :: a14 :: a15 :: a16 :: a17 :: a18 :: a19 :: a20 :: a21 :: a22 :: a23 :: a24 :: some v :: r)) : SetR 25 v N (a0 :: a1 :: a2 :: a3 :: a4 :: a5 :: a6 :: a7 :: a8 :: a9 :: a10 :: a11 :: a12 :: a13 :: a14 :: a15 :: a16 :: a17 :: a18 :: a19 :: a20 :: a21 :: a22 :: a23 :: a24 :: a25 :: r) := q
theorem r_var_25 {a0 a1 a2 a3 a4 a5 a6 a7 a8 a9 a10 a11 a12 a13 a14 a15 a16 a17 a18 a19 a20 a21 a22 a23 a24 : Option V} {r : List (Option V)} (q : Q v H) : tVar 25 (a0 :: a1 :: a2 :: a3 :: a4 :: a5 :: a6 :: a7 :: a8 :: a9 :: a10 :: a11 :: a12 :: a13 :: a14 :: a15 :: a16 :: a17 :: a18 :: a19 :: a20 :: a21 :: a22 :: a23 :: a24 :: some v :: r) H Q := ⟨v, rfl, q⟩
theorem r_set_26 {a0 a1 a2 a3 a4 a5 a6 a7 a8 a9 a10 a11 a12 a13 a14 a15 a16 a17 a18 a19 a20 a21 a22 a23 a24 a25 a26 : Option V} {r : List (Option V)} {N : L2.St → Prop} (q : N (a0 :: a1 :: a2 :: a3 :: a4 :: a5 :: a6 :: a7 :: a8 :: a9 :: a10 :: a11 :: a12 :: a13 :: a14 :: a15 :: a16 :: a17 :: a18 :: a19 :: a20 :: a21 :: a22 :: a23 :: a24 :: a25 :: some v :: r)) : SetR 26 v N (a0 :: a1 :: a2 :: a3 :: a4 :: a5 :: a6 :: a7 :: a8 :: a9 :: a10 :: a11 :: a12 :: a13 :: a14 :: a15 :: a16 :: a17 :: a18 :: a19 :: a20 :: a21 :: a22 :: a23 :: a24 :: a25 :: a26 :: r) := q
theorem r_var_26 {a0 a1 a2 a3 a4 a5 a6 a7 a8 a9 a10 a11 a12 a13 a14 a15 a16 a17 a18 a19 a20 a21 a22 a23 a24 a25 : Option V} {r : List (Option V)} (q : Q v H) : tVar 26 (a0 :: a1 :: a2 :: a3 :: a4 :: a5 :: a6 :: a7 :: a8 :: a9 :: a10 :: a11 :: a12 :: a13 :: a14 :: a15 :: a16 :: a17 :: a18 :: a19 :: a20 :: a21 :: a22 :: a23 :: a24 :: a25 :: some v :: r) H Q := ⟨v, rfl, q⟩
theorem r_set_27 {a0 a1 a2 a3 a4 a5 a6 a7 a8 a9 a10 a11 a12 a13 a14 a15 a16 a17 a18 a19 a20 a21 a22 a23 a24 a25 a26 a27 : Option V} {r : List (Option V)} {N : L2.St → Prop} (q : N (a0 :: a1 :: a2 :: a3 :: a4 :: a5 :: a6 :: a7 :: a8 :: a9 :: a10 :: a11 :: a12 :: a13 :: a14 :: a15 :: a16 :: a17 :: a18 :: a19 :: a20 :: a21 :: a22 :: a23 :: a24 :: a25 :: a26 :: some v :: r)) : SetR 27 v N (a0 :: a1 :: a2 :: a3 :: a4 :: a5 :: a6 :: a7 :: a8 :: a9 :: a10 :: a11 :: a12 :: a13 :: a14 :: a15 :: a16 :: a17 :: a18 :: a19 :: a20 :: a21 :: a22 :: a23 :: a24 :: a25 :: a26 :: a27 :: r) := q
theorem r_var_27 {a0 a1 a2 a3 a4 a5 a6 a7 a8 a9 a10 a11 a12 a13 a14 a15 a16 a17 a18 a19 a20 a21 a22 a23 a24 a25 a26 : Option V} {r : List (Option V)} (q : Q v H) : tVar 27 (a0 :: a1 :: a2 :: a3 :: a4 :: a5 :: a6 :: a7 :: a8 :: a9 :: a10 :: a11 :: a12 :: a13 :: a14 :: a15 :: a16 :: a17 :: a18 :: a19 :: a20 :: a21 :: a22 :: a23 :: a24 :: a25 :: a26 :: some v :: r) H Q := ⟨v, rfl, q⟩
theorem r_asg {i : Nat} (q : te σ H fun x H1 => SetR i x (fun s => D.nx s H1) σ) : tAsg te (gName i) D σ H := q
theorem r_asgG {g : TG} (q : te σ H fun x H1 => g x σ H1 D.nx) : tAsg te g D σ H := q
theorem r_gname {i : Nat} {Q : L2.St → Hp → Prop} (q : SetR i v (fun s => Q s H) σ) : gName i v σ H Q := q
theorem r_gtup {a : Addr} {xs : List V} {n : Nat} {t : TGs} {Q : L2.St → Hp → Prop} (h : SqT K H a xs) (l : xs.length = n) (q : t xs σ H Q) : gTup K n t (.ref a) σ H Q := ⟨a, xs, rfl, h, l, q⟩
theorem r_gcons {g : TG} {t : TGs} {r : List V} {Q : L2.St → Hp → Prop} (q : g v σ H fun σ' H' => t r σ' H' Q) : gCons g t (v :: r) σ H Q := ⟨v, r, rfl, q⟩
theorem r_gnil {Q : L2.St → Hp → Prop} (q : Q σ H) : gNil [] σ H Q := ⟨rfl, q⟩
theorem r_par {i j : Nat} {t : TA} (q : t σ H fun vs H1 => ∃ v w, vs = [v, w] ∧ SetR i v (SetR j w fun s => D.nx s H1) σ) : tPar i j t D σ H := q
theorem r_par2 {k : V → V → Prop} (q : k x y) : ∃ v w, [x, y] = [v, w] ∧ k v w := ⟨x, y, rfl, q⟩
theorem r_par3 {i j l : Nat} {t : TA} (q : t σ H fun vs H1 => ∃ u v w, vs = [u, v, w] ∧ SetR i u (SetR j v (SetR l w fun s => D.nx s H1)) σ) : tPar3 i j l t D σ H := q
theorem r_par33 {k : V → V → V → Prop} {z : V} (q : k x y z) : ∃ u v w, [x, y, z] = [u, v, w] ∧ k u v w := ⟨x, y, z, rfl, q⟩
theorem r_ret (q : te σ H D.rt) : tRet te D σ H := q
theorem r_drop (q : te σ H fun _ H1 => D.nx σ H1) : tDrop te D σ H := q
theorem r_ifS (q : c σ H fun b H1 => if b = true then t D σ H1 else u D σ H1) : tIfS c t u D σ H := q
theorem r_stop (q : tIfS c t u D σ H) : tIfS c t u D σ H := q
/-- an if whose test tells false in some heap behind H -/
theorem r_ifF (h1 : ∀ Z : Bool → Hp → Prop, (∀ H', Same H H' → Z false H') → c σ H Z) (h2 : ∀ H', Same H H' → u D σ H') : tIfS c t u D σ H := h1 _ fun H' s => iteF (h2 H' s)
theorem r_aug {i : Nat} {ti : TIp} (h : σ[i]? = some (some x)) (q : te σ H fun y H1 => ti x y H1 fun z H2 => SetR i z (fun s => D.nx s H2) σ) : tAug i te ti D σ H := ⟨x, h, q⟩
theorem r_ipI {f : Int → Int → Int} {i j : Int} (q : Q (.int (f i j)) H) : ipI f (.int i) (.int j) H Q := ⟨i, j, rfl, rfl, q⟩
/-- a store to a field, by values -/
def FldS (K : PySem.W.Frag) (f : Str) (q : Hp → Prop) (y x : V) (H : Hp) : Prop := ∃ a C dx fs, x = .ref a ∧ H a = some (.ins C dx fs) ∧ Cls K C ∧ NoAttr K C f ∧ fs.length < 1000 ∧ q (upd H a (.ins C dx (putF f y fs)))
theorem r_sfld {tv : TE} {f : Str} (q : tv σ H fun y H1 => ta σ H1 (FldS K f (D.nx σ) y)) : sFld K ta tv f D σ H := q
theorem r_sfldR {f : Str} {q : Hp → Prop} {a C dx : Addr} {fs : List (Str × V)} (h : H a = some (.ins C dx fs)) (c : Cls K C) (n : NoAttr K C f) (l : fs.length < 1000) (p : q (upd H a (.ins C dx (putF f y fs)))) : FldS K f q y (.ref a) H := ⟨a, C, dx, fs, rfl, h, c, n, l, p⟩
theorem r_sfldU {f : Str} {q : Hp → Prop} {a C dx : Addr} {fs : List (Str × V)} (c : Cls K C) (n : NoAttr K C f) (l : fs.length < 1000) (p : q (upd H a (.ins C dx (putF f y fs)))) : FldS K f q y (.ref a) (upd H a (.ins C dx fs)) :=
  ⟨a, C, dx, fs, rfl, upd_same, c, n, l, by
    rw [upd_upd]
    exact p⟩
theorem r_fldU {f : Str} {a C dx : Addr} {fs : List (Str × V)} (c : Cls K C) (n : NoAttr K C f) (l : fs.lookup f = some v) (q : Q v (upd H a (.ins C dx fs))) : FldR K f Q (.ref a) (upd H a (.ins C dx fs)) := ⟨a, C, dx, fs, v, rfl, upd_same, c, n, l, q⟩
/-- inside a while's turn: the next turn's word with a smaller measure -/
theorem r_turn {W : Nat → L2.St → Hp → Prop} {m : Nat} {tb : TS} (q : tb { D with nx := fun σ' H' => ∃ m', m' < m ∧ W m' σ' H', ct := fun σ' H' => ∃ m', m' < m ∧ W m' σ' H', bk := D.nx } σ H) :
    ∃ N : L2.St → Hp → Prop, (∀ σ' H', N σ' H' → ∃ m', m' < m ∧ W m' σ' H') ∧ tb { D with nx := N, ct := N, bk := D.nx } σ H := ⟨_, fun _ _ h => h, q⟩
/-! ### loops -/
theorem r_forL {tl : TE} {g : TG} {tb : TS} (q : tl σ H fun x H1 => ∃ a, x = .ref a ∧ (∃ xs, SqL K H1 a xs) ∧ ∃ W : Nat → Nat → L2.St → Hp → Prop, (∃ m, W 0 m σ H1) ∧ ∀ i m σ H, W i m σ H →
      ((Itl K a).stop i H ∧ D.nx σ H) ∨ ((Itl K a).go i H ∧ ∃ N : L2.St → Hp → Prop, (∀ σ' H', N σ' H' → ∃ m', m' < m ∧ W (i + 1) m' σ' H') ∧ ∀ x H', (Itl K a).yld i H x H' → g x σ H' fun σ2 H2 => tb { D with nx := N, ct := N, bk := D.nx } σ2 H2)) : tFor (iList K tl) g tb D σ H := q
theorem r_forLR {a : Addr} {xs : List V} {P : Addr → Prop} (h : SqL K H a xs) (q : P a) : ∃ a', V.ref a = .ref a' ∧ (∃ xs, SqL K H a' xs) ∧ P a' := ⟨a, rfl, ⟨xs, h⟩, q⟩
/-! ### heaps -/
theorem same_new {p : Addr} {o : HO} (h : H p = none) : Same H (upd H p o) := fun b u e => by
  rw [upd_ne (ne_of_none e h)]
  exact e
/-- what H does not hold may change -/
theorem same_mut {H' : Hp} {p : Addr} {o : HO} (e : Same H H') (h : H p = none) : Same H (upd H' p o) := fun b u q => by
  rw [upd_ne (ne_of_none q h)]
  exact e b u q
theorem same_sqT {a : Addr} {xs : List V} {H' : Hp} (e : Same H H') (h : SqT K H a xs) : SqT K H' a xs := by
  rcases h with (h | ⟨o, h⟩) | h
  · exact .inl (.inl (e _ _ h))
  · exact .inl (.inr ⟨o, e _ _ h⟩)
  · exact .inr h
theorem putF_lt {f : Str} {n : Nat} : ∀ {l : List (Str × V)}, l.length < n → (putF f v l).length < n + 1
  | [], h => by
    show 1 < n + 1
    omega
  | (g, y) :: l, h => by
    unfold putF
    split
    · simp only [List.length_cons] at h ⊢
      omega
    · cases n with
      | zero => simp at h
      | succ n =>
        have z := putF_lt (f := f) (n := n) (l := l) (by simpa using h)
        simp only [List.length_cons]
        omega
end
end G57
end
section
set_option maxRecDepth 100000
set_option maxHeartbeats 4000000
/-! XRead2: readings of loops, comprehensions, slices. -/
namespace G57
open PySem PySem.Spec PyProof.Rows L2
/-- a word about the heap that new objects and a list's growth leave true -/
def Stab (R : Hp → Prop) : Prop := (∀ H H', R H → Same H H' → R H') ∧ ∀ H D zs zs', R H → H D = some (.lst zs) → R (upd H D (.lst zs'))
theorem Stab.triv {A : Prop} : Stab fun _ => A := ⟨fun _ _ h _ => h, fun _ _ _ _ h _ => h⟩
theorem Stab.and {R S : Hp → Prop} (h : Stab R) (k : Stab S) : Stab fun H => R H ∧ S H := ⟨fun _ _ z s => ⟨h.1 _ _ z.1 s, k.1 _ _ z.2 s⟩, fun _ _ _ _ z s => ⟨h.2 _ _ _ _ z.1 s, k.2 _ _ _ _ z.2 s⟩⟩
theorem Stab.ex {α : Type} {R : α → Hp → Prop} (h : ∀ a, Stab (R a)) : Stab fun H => ∃ a, R a H := ⟨fun _ _ ⟨a, z⟩ s => ⟨a, (h a).1 _ _ z s⟩, fun _ _ _ _ ⟨a, z⟩ s => ⟨a, (h a).2 _ _ _ _ z s⟩⟩
theorem Stab.ins {p C dx : Addr} {fs : List (Str × V)} : Stab fun H => H p = some (.ins C dx fs) := ⟨fun _ _ h s => s _ _ h, fun H D zs zs' h e => by
  show upd H D _ p = _
  rw [upd_ne]
  · exact h
  · intro z
    subst z
    have q := e.symm.trans h
    cases q⟩
theorem Stab.tup {p : Addr} {xs : List V} : Stab fun H => H p = some (.tup xs) := ⟨fun _ _ h s => s _ _ h, fun H D zs zs' h e => by
  show upd H D _ p = _
  rw [upd_ne]
  · exact h
  · intro z
    subst z
    have q := e.symm.trans h
    cases q⟩
section
variable {K : PySem.W.Frag} {σ : L2.St} {H H1 : Hp} {Q : VK} {v x y : V} {ta tb tc te : TE} {D : Ends} {t u : TS} {c : TT} {A B : Prop}
theorem sameT {H H' H2 : Hp} (a : Same H H') (b : Same H' H2) : Same H H2 := fun p o h => b p o (a p o h)
theorem sameR {H : Hp} : Same H H := fun _ _ h => h
theorem sqL_same {a : Addr} {xs : List V} {H' : Hp} (h : H a = some (.lst xs)) (s : Same H H') : SqL K H' a xs := .inl (.inl (s _ _ h))
theorem sqL_at {a : Addr} {xs : List V} (h : H a = some (.lst xs)) : SqL K H a xs := .inl (.inl h)
theorem sqT_at {a : Addr} {xs : List V} (h : H a = some (.tup xs)) : SqT K H a xs := .inl (.inl h)
/-! ### ranges, fors -/
theorem r_rng1 {tA : TA} {R : It → Hp → Prop} (q : tA σ H fun vs H1 => ∃ j : Int, vs = [.int j] ∧ -(2 ^ 62) ≤ j ∧ j < 2 ^ 62 ∧ R (Itr 0 j.toNat) H1) : iRng1 tA σ H R := q
theorem r_rng1v {j : Int} {R : It → Hp → Prop} (h : -(2 ^ 62) ≤ j ∧ j < 2 ^ 62) (q : R (Itr 0 j.toNat) H) : ∃ j' : Int, [V.int j] = [.int j'] ∧ -(2 ^ 62) ≤ j' ∧ j' < 2 ^ 62 ∧ R (Itr 0 j'.toNat) H := ⟨j, rfl, h.1, h.2, q⟩
theorem r_rng2 {tA : TA} {R : It → Hp → Prop} (q : tA σ H fun vs H1 => ∃ i j : Int, vs = [.int i, .int j] ∧ (-(2 ^ 62) ≤ i ∧ i < 2 ^ 62 ∧ -(2 ^ 62) ≤ j ∧ j < 2 ^ 62) ∧ R (Itr i (j - i).toNat) H1) : iRng2 tA σ H R := q
theorem r_rng2v {i j : Int} {R : It → Hp → Prop} (h : -(2 ^ 62) ≤ i ∧ i < 2 ^ 62 ∧ -(2 ^ 62) ≤ j ∧ j < 2 ^ 62) (q : R (Itr i (j - i).toNat) H) : ∃ i' j' : Int, [V.int i, V.int j] = [.int i', .int j'] ∧ (-(2 ^ 62) ≤ i' ∧ i' < 2 ^ 62 ∧ -(2 ^ 62) ≤ j' ∧ j' < 2 ^ 62) ∧ R (Itr i' (j' - i').toNat) H := ⟨i, j, rfl, h, q⟩
/-- a for behind what it walks -/
def ForR (J : It) (g : TG) (tb : TS) (D : Ends) (σ : L2.St) (H1 : Hp) : Prop := ∃ W : Nat → Nat → L2.St → Hp → Prop, (∃ m, W 0 m σ H1) ∧ ∀ i m σ H, W i m σ H →
      (J.stop i H ∧ D.nx σ H) ∨ (J.go i H ∧ ∃ N : L2.St → Hp → Prop, (∀ σ' H', N σ' H' → ∃ m', m' < m ∧ W (i + 1) m' σ' H') ∧ ∀ x H', J.yld i H x H' → g x σ H' fun σ2 H2 => tb { D with nx := N, ct := N, bk := D.nx } σ2 H2)
theorem r_for {wi : TI} {g : TG} {tb : TS} (q : wi σ H fun J H1 => ForR J g tb D σ H1) : tFor wi g tb D σ H := q
/-- one turn of a for -/
def TurnR (g : TG) (tb : TS) (D : Ends) (N : L2.St → Hp → Prop) (x : V) (σ : L2.St) (H : Hp) : Prop := g x σ H fun σ2 H2 => tb { D with nx := N, ct := N, bk := D.nx } σ2 H2
theorem r_turnN {j : Nat} {tb : TS} {N : L2.St → Hp → Prop} (q : SetR j x (fun s => tb { D with nx := N, ct := N, bk := D.nx } s H) σ) : TurnR (gName j) tb D N x σ H := q
theorem r_turnG {g : TG} {tb : TS} {N : L2.St → Hp → Prop} (q : g x σ H fun σ2 H2 => tb { D with nx := N, ct := N, bk := D.nx } σ2 H2) : TurnR g tb D N x σ H := q
theorem fR_range {lo : Int} {n : Nat} {g : TG} {tb : TS} (Pv : Nat → L2.St → Hp → Prop) (h0 : Pv 0 σ H) (hs : ∀ i σ H, i < n → Pv i σ H → TurnR g tb D (Pv (i + 1)) (.int (lo + i)) σ H) (hd : ∀ σ H, Pv n σ H → D.nx σ H) : ForR (Itr lo n) g tb D σ H := for_range Pv h0 hs hd
theorem fR_list {a : Addr} {xs : List V} {g : TG} {tb : TS} (Pv : Nat → L2.St → Hp → Prop) (h0 : Pv 0 σ H) (hl : ∀ i σ H, i ≤ xs.length → Pv i σ H → SqL K H a xs) (hs : ∀ i x σ H, xs[i]? = some x → Pv i σ H → TurnR g tb D (Pv (i + 1)) x σ H) (hd : ∀ σ H, Pv xs.length σ H → D.nx σ H) : ForR (Itl K a) g tb D σ H := for_list Pv h0 hl hs hd
theorem fR_tup {a : Addr} {xs : List V} {g : TG} {tb : TS} (Pv : Nat → L2.St → Hp → Prop) (h0 : Pv 0 σ H) (hl : ∀ i σ H, i ≤ xs.length → Pv i σ H → SqT K H a xs) (hs : ∀ i x σ H, xs[i]? = some x → Pv i σ H → TurnR g tb D (Pv (i + 1)) x σ H) (hd : ∀ σ H, Pv xs.length σ H → D.nx σ H) : ForR (Itt K a) g tb D σ H := for_tup Pv h0 hl hs hd
theorem fR_enumT {a : Addr} {xs : List V} {g : TG} {tb : TS} (Pv : Nat → L2.St → Hp → Prop) (h0 : Pv 0 σ H) (hl : ∀ i σ H, Pv i σ H → SqT K H a xs) (hs : ∀ (i : Nat) (x : V) (T : Addr) (σ : L2.St) (H : Hp), xs[i]? = some x → Pv i σ H → H T = none → TurnR g tb D (Pv (i + 1)) (.ref T) σ (upd H T (.tup [.int (i : Nat), x]))) (hd : ∀ σ H, Pv xs.length σ H → D.nx σ H) : ForR (IteT K a) g tb D σ H := for_enumT Pv h0 hl hs hd
theorem r_iL {tl : TE} {R : It → Hp → Prop} (q : tl σ H fun x H1 => ∃ a, x = .ref a ∧ (∃ xs, SqL K H1 a xs) ∧ R (Itl K a) H1) : iList K tl σ H R := q
theorem r_iLv {a : Addr} {xs : List V} {R : It → Hp → Prop} (h : SqL K H a xs) (q : R (Itl K a) H) : ∃ a', V.ref a = .ref a' ∧ (∃ xs, SqL K H a' xs) ∧ R (Itl K a') H := ⟨a, rfl, ⟨xs, h⟩, q⟩
theorem r_iT {tl : TE} {R : It → Hp → Prop} (q : tl σ H fun x H1 => ∃ a, x = .ref a ∧ (∃ xs, SqT K H1 a xs) ∧ R (Itt K a) H1) : iTup K tl σ H R := q
theorem r_iE {tA : TA} {R : It → Hp → Prop} (q : tA σ H fun vs H1 => ∃ a xs, vs = [.ref a] ∧ SqT K H1 a xs ∧ R (IteT K a) H1) : iEnumT K tA σ H R := q
theorem r_iEv {a : Addr} {xs : List V} {R : It → Hp → Prop} (h : SqT K H a xs) (q : R (IteT K a) H) : ∃ a' xs', [V.ref a] = [.ref a'] ∧ SqT K H a' xs' ∧ R (IteT K a') H := ⟨a, xs, rfl, h, q⟩
/-- a list comprehension behind its first word -/
def LcR (J : It) (g : TG) (tt : TT) (te : TE) (vs : List Nat) (σ : L2.St) (Q : VK) (H1 : Hp) : Prop := ∀ D, H1 D = none → ∃ W : Nat → Nat → Hp → Prop, (∃ m, W 0 m (upd H1 D (.lst []))) ∧ ∀ i m H, W i m H →
  (J.stop i H ∧ Q (.ref D) H) ∨ (J.go i H ∧ ∃ Nx : Hp → Prop, (∀ H', Nx H' → ∃ m', m' < m ∧ W (i + 1) m' H') ∧ ∀ x H', J.yld i H x H' → g x (wipe σ vs) H' fun σ2 H2 => wipe σ2 vs = wipe σ vs ∧ tt σ2 H2 fun b H3 =>
    if b = true then te σ2 H3 fun y H4 => ∃ acc, H4 D = some (.lst acc) ∧ acc.length < sizeLine ∧ Nx (upd H4 D (.lst (acc ++ [y]))) else Nx H3)
theorem r_lc {wi : TI} {g : TG} {tt : TT} {vs : List Nat} (q : wi σ H fun J H1 => LcR J g tt te vs σ Q H1) : tLc wi g tt te vs σ H Q := q
theorem r_lc1 {wi : TI} {g : TG} {tt : TT} {x1 : Str} {k1 : Nat} (q : wi σ H fun J H1 => LcR J g tt te [k1] σ Q H1) : tLc wi g tt te (List.map (fun x => x.snd) [(x1, k1)]) σ H Q := q
theorem r_lc2 {wi : TI} {g : TG} {tt : TT} {x1 x2 : Str} {k1 k2 : Nat} (q : wi σ H fun J H1 => LcR J g tt te [k1, k2] σ Q H1) : tLc wi g tt te (List.map (fun x => x.snd) [(x1, k1), (x2, k2)]) σ H Q := q
theorem r_lc3 {wi : TI} {g : TG} {tt : TT} {x1 x2 x3 : Str} {k1 k2 k3 : Nat} (q : wi σ H fun J H1 => LcR J g tt te [k1, k2, k3] σ Q H1) : tLc wi g tt te (List.map (fun x => x.snd) [(x1, k1), (x2, k2), (x3, k3)]) σ H Q := q
theorem wipe1 {j : Nat} (v : V) : (wipe σ [j]).set j (some v) = σ.set j (some v) := by
  simp [wipe, List.set_set]
theorem wipe1' {j : Nat} (v : V) : wipe ((wipe σ [j]).set j (some v)) [j] = wipe σ [j] := by
  simp [wipe, List.set_set]
theorem wipe2 {i j : Nat} (n : i ≠ j) (a b : Option V) : ((wipe σ [i, j]).set i a).set j b = (σ.set i a).set j b := by
  show (((σ.set j none).set i none).set i a).set j b = _
  rw [List.set_set, List.set_comm _ _ n.symm, List.set_set]
theorem wipe2' {i j : Nat} (n : i ≠ j) (a b : Option V) : wipe ((σ.set i a).set j b) [i, j] = wipe σ [i, j] := by
  show (((σ.set i a).set j b).set j none).set i none = (σ.set j none).set i none
  rw [List.set_set, List.set_comm _ _ n, List.set_set]
/-- the word of a list comprehension's turn: the list so far -/
def LcP (H1 : Hp) (D : Addr) (R : Nat → V → Hp → Prop) (i : Nat) (H : Hp) : Prop := ∃ ys, H D = some (.lst ys) ∧ ys.length = i ∧ Same H1 H ∧ ∀ j y, ys[j]? = some y → R j y H
theorem lcP_0 {D : Addr} {R : Nat → V → Hp → Prop} (h : H1 D = none) : LcP H1 D R 0 (upd H1 D (.lst [])) := ⟨[], upd_same, rfl, same_new h, fun j y e => by simp at e⟩
theorem lcP_step {D : Addr} {R : Nat → V → Hp → Prop} (hR : ∀ i v, Stab (R i v)) {i n : Nat} (hn : n ≤ sizeLine) (hi : i < n) {H4 : Hp} (h0 : H1 D = none) (h : LcP H1 D R i H) (s : Same H H4) (r : R i y H4) :
    ∃ acc, H4 D = some (.lst acc) ∧ acc.length < sizeLine ∧ LcP H1 D R (i + 1) (upd H4 D (.lst (acc ++ [y]))) := by
  obtain ⟨ys, e, l, s1, hr⟩ := h
  refine ⟨ys, s _ _ e, by omega, _, upd_same, by simp [l], same_mut (sameT s1 s) h0, fun j z ez => ?_⟩
  refine (hR j z).2 _ _ _ _ ?_ (s _ _ e)
  rcases Nat.lt_trichotomy j ys.length with lt | eq | gt
  · rw [List.getElem?_append_left lt] at ez
    exact (hR j z).1 _ _ (hr j z ez) s
  · subst eq
    rw [List.getElem?_append_right (Nat.le_refl _)] at ez
    simp at ez
    subst ez
    rw [l]
    exact r
  · rw [List.getElem?_eq_none (by simp; omega)] at ez
    cases ez
theorem tYes_of {F : Hp → Prop} {Z : VK} (h : te σ H Z) : tYes σ H fun b H3 => if b = true then te σ H3 Z else F H3 := by
  show if true = true then te σ H Z else F H
  exact iteT h
theorem lcN_range {lo : Int} {n j : Nat} {vs : List Nat} (R : Nat → V → Hp → Prop) (hR : ∀ i v, Stab (R i v)) (hn : n ≤ sizeLine) (hw : ∀ v, wipe ((wipe σ vs).set j (some v)) vs = wipe σ vs)
    (hs : ∀ i H' (Z : VK), i < n → Same H1 H' → (∀ y H4, Same H' H4 → R i y H4 → Z y H4) → te ((wipe σ vs).set j (some (.int (lo + i)))) H' Z)
    (hd : ∀ D H' ys, H1 D = none → Same H1 H' → H' D = some (.lst ys) → ys.length = n → (∀ i y, ys[i]? = some y → R i y H') → Q (.ref D) H') :
    LcR (Itr lo n) (gName j) tYes te vs σ Q H1 := fun D hD =>
  lc_range (LcP H1 D R) (lcP_0 hD) (fun i H' hi p => ⟨hw _, tYes_of (hs i H' _ hi p.choose_spec.2.2.1 fun y H4 s r => lcP_step hR hn hi hD p s r)⟩) fun H' p => by
    obtain ⟨ys, e, l, s, hr⟩ := p
    exact hd D H' ys hD s e l hr
theorem lcN_list {a : Addr} {xs : List V} {j : Nat} {vs : List Nat} (R : Nat → V → Hp → Prop) (hR : ∀ i v, Stab (R i v)) (hl : H1 a = some (.lst xs)) (hn : xs.length ≤ sizeLine) (hw : ∀ v, wipe ((wipe σ vs).set j (some v)) vs = wipe σ vs)
    (hs : ∀ i x H' (Z : VK), xs[i]? = some x → Same H1 H' → (∀ y H4, Same H' H4 → R i y H4 → Z y H4) → te ((wipe σ vs).set j (some x)) H' Z)
    (hd : ∀ D H' ys, H1 D = none → Same H1 H' → H' D = some (.lst ys) → ys.length = xs.length → (∀ i y, ys[i]? = some y → R i y H') → Q (.ref D) H') :
    LcR (Itl K a) (gName j) tYes te vs σ Q H1 := fun D hD =>
  lc_list (xs := xs) (LcP H1 D R) (lcP_0 hD) (fun i H' hi p => sqL_same hl p.choose_spec.2.2.1) (fun i x H' hx p => ⟨hw _, tYes_of (hs i x H' _ hx p.choose_spec.2.2.1 fun y H4 s r => lcP_step hR hn (List.getElem?_eq_some_iff.mp hx).1 hD p s r)⟩) fun H' p => by
    obtain ⟨ys, e, l, s, hr⟩ := p
    exact hd D H' ys hD s e l hr
theorem lcN_tup {a : Addr} {xs : List V} {j : Nat} {vs : List Nat} (R : Nat → V → Hp → Prop) (hR : ∀ i v, Stab (R i v)) (hl : SqT K H1 a xs) (hn : xs.length ≤ sizeLine) (hw : ∀ v, wipe ((wipe σ vs).set j (some v)) vs = wipe σ vs)
    (hs : ∀ i x H' (Z : VK), xs[i]? = some x → Same H1 H' → (∀ y H4, Same H' H4 → R i y H4 → Z y H4) → te ((wipe σ vs).set j (some x)) H' Z)
    (hd : ∀ D H' ys, H1 D = none → Same H1 H' → H' D = some (.lst ys) → ys.length = xs.length → (∀ i y, ys[i]? = some y → R i y H') → Q (.ref D) H') :
    LcR (Itt K a) (gName j) tYes te vs σ Q H1 := fun D hD =>
  lc_tup (xs := xs) (LcP H1 D R) (lcP_0 hD) (fun i H' hi p => same_sqT p.choose_spec.2.2.1 hl) (fun i x H' hx p => ⟨hw _, tYes_of (hs i x H' _ hx p.choose_spec.2.2.1 fun y H4 s r => lcP_step hR hn (List.getElem?_eq_some_iff.mp hx).1 hD p s r)⟩) fun H' p => by
    obtain ⟨ys, e, l, s, hr⟩ := p
    exact hd D H' ys hD s e l hr
/-- a list of ints, its items by their places -/
theorem ints_of {ys : List V} {n : Nat} {f : Nat → Int} (l : ys.length = n) (h : ∀ (i : Nat) (y : V), ys[i]? = some y → y = V.int (f i)) : ys = ((List.range n).map f).map V.int := by
  subst l
  refine List.ext_getElem? fun i => ?_
  by_cases lt : i < ys.length
  · rw [List.getElem?_eq_getElem lt]
    rw [h i _ (List.getElem?_eq_getElem lt)]
    simp [lt]
  · rw [List.getElem?_eq_none (by omega), List.getElem?_eq_none (by simp; omega)]
/-! ### whiles -/
theorem r_while {tt : TT} {tb : TS} (q : ∃ W : Nat → L2.St → Hp → Prop, (∃ m, W m σ H) ∧ ∀ m σ H, W m σ H →
  tt σ H fun b H1 => if b = true then ∃ N : L2.St → Hp → Prop, (∀ σ' H', N σ' H' → ∃ m', m' < m ∧ W m' σ' H') ∧ tb { D with nx := N, ct := N, bk := D.nx } σ H1 else D.nx σ H1) : tWhile tt tb D σ H := q
/-! ### slices, sums -/
theorem r_revL {a : Addr} {xs : List V} (h : SqL K H a xs) (q : ∀ p, H p = none → Q (.ref p) (upd H p (.lst xs.reverse))) : ∃ a' ys, V.ref a = .ref a' ∧ SqL K H a' ys ∧ ∀ p, H p = none → Q (.ref p) (upd H p (.lst ys.reverse)) := ⟨a, xs, rfl, h, q⟩
theorem at_m1 {xs : List V} (l : xs[xs.length - 1]? = some v) : atI xs (-1) = some v := by
  have lt := (List.getElem?_eq_some_iff.mp l).1
  unfold atI ixN
  have e : (-1 : Int) + (xs.length : Nat) = ((xs.length - 1 : Nat) : Int) := by omega
  have c : 1 ≤ ((xs.length : Nat) : Int) := by omega
  simp only [Int.reduceNeg, Int.reduceLE, reduceIte, Int.neg_le_neg_iff, if_pos c, e, Int.toNat_natCast, Option.bind_some]
  exact l
theorem r_rev (q : te σ H fun x H1 => ∃ a xs, x = .ref a ∧ SqL K H1 a xs ∧ ∀ p, H1 p = none → Q (.ref p) (upd H1 p (.lst xs.reverse))) : tRevL K te σ H Q := q
theorem r_sl {r : V → Option Int → Option Int → Hp → VK → Prop} {tl th : TO} (q : te σ H fun x H1 => tl σ H1 fun l H2 => th σ H2 fun u H3 => r x l u H3 Q) : tSl r te tl th σ H Q := q
def PartR (Q : Option Int → Hp → Prop) (x : V) (H1 : Hp) : Prop := ∃ i, x = .int i ∧ Q (some i) H1
theorem r_part {Q : Option Int → Hp → Prop} (q : te σ H (PartR Q)) : tPart te σ H Q := q
theorem r_pi {Q : Option Int → Hp → Prop} {i : Int} (q : Q (some i) H) : PartR Q (.int i) H := ⟨i, rfl, q⟩
theorem r_noPart {Q : Option Int → Hp → Prop} (q : Q none H) : tNoPart σ H Q := q
theorem cutV_take {xs : List V} (k : Nat) : cutV xs none (some (k : Int)) = xs.take k := by
  unfold cutV
  rw [HT.sIx_nat, HT.sIx_none]
  simp only [List.drop_zero, Nat.sub_zero]
  by_cases h : k ≤ xs.length
  · rw [Nat.min_eq_left h]
  · rw [Nat.min_eq_right (by omega), List.take_of_length_le (Nat.le_refl _), List.take_of_length_le (by omega)]
theorem cutV_drop {xs : List V} (k : Nat) : cutV xs (some (k : Int)) none = xs.drop k := by
  unfold cutV
  rw [HT.sIx_nat, HT.sIx_none]
  by_cases h : k ≤ xs.length
  · rw [Nat.min_eq_left h, List.take_of_length_le (by simp)]
  · rw [Nat.min_eq_right (by omega), List.drop_of_length_le (Nat.le_refl _), List.drop_of_length_le (by omega)]
    simp
theorem cutV_mid {xs : List V} (j k : Nat) (h : k ≤ xs.length) : cutV xs (some (j : Int)) (some (k : Int)) = (xs.take k).drop j := by
  unfold cutV
  rw [HT.sIx_nat, HT.sIx_nat, Nat.min_eq_left h, List.drop_take]
  by_cases hj : j ≤ xs.length
  · rw [Nat.min_eq_left hj]
  · rw [Nat.min_eq_right (by omega), List.drop_of_length_le (Nat.le_refl _), List.drop_of_length_le (by omega)]
    simp
theorem r_slL {a : Addr} {xs : List V} {lo hi : Option Int} (h : SqL K H a xs) (q : ∀ p, H p = none → Q (.ref p) (upd H p (.lst (cutV xs lo hi)))) : rSlL K (.ref a) lo hi H Q := ⟨a, xs, rfl, h, q⟩
theorem r_cat {a b : Addr} {xs ys : List V} (h : H a = some (.lst xs)) (k : H b = some (.lst ys)) (l : xs.length + ys.length ≤ sizeLine) (q : ∀ p, H p = none → Q (.ref p) (upd H p (.lst (xs ++ ys)))) : rCat (.ref a) (.ref b) H Q := ⟨a, b, xs, ys, rfl, rfl, h, k, l, q⟩
theorem r_catA {a b : Addr} {xs ys : List V} (h : SqT K H a xs) (k : SqT K H b ys) (l : xs.length + ys.length ≤ sizeLine) (q : ∀ p H', Same H H' → SqT K H' p (xs ++ ys) → Q (.ref p) H') : rCatA K (.ref a) (.ref b) H Q := by
  refine ⟨a, b, xs, ys, rfl, rfl, h, k, l, fun e => ?_, fun _ e => ?_, fun _ _ p hp => ?_⟩
  · subst e
    exact q b H sameR k
  · subst e
    exact q a H sameR (by rw [List.append_nil]; exact h)
  · exact q p _ (same_new hp) (sqT_at upd_same)
theorem r_slA {a : Addr} {xs : List V} {lo hi : Option Int} (h : SqT K H a xs) (q : ∀ p H', Same H H' → SqT K H' p (cutV xs lo hi) → Q (.ref p) H') : rSlA K (.ref a) lo hi H Q := by
  refine ⟨a, xs, rfl, h, fun e => ?_, fun _ p hp => ?_⟩
  · refine q a H sameR ?_
    have z : cutV xs lo hi = xs := by
      unfold cutV
      rw [e.1, e.2]
      simp
    rw [z]
    exact h
  · exact q p _ (same_new hp) (sqT_at upd_same)
theorem iN' {p : Prop} [Decidable p] {B : Prop} {A : Prop} (h : p) (q : B) : if (!decide p) = true then A else B := i2n (fun z => absurd h z) fun _ => q
theorem iY' {p : Prop} [Decidable p] {B : Prop} {A : Prop} (h : ¬ p) (q : A) : if (!decide p) = true then A else B := i2n (fun _ => q) fun z => absurd z h
theorem none_of_same {H H' : Hp} {p : Addr} (s : Same H H') (h : H' p = none) : H p = none := by
  cases e : H p with
  | none => rfl
  | some o => exact absurd (h.symm.trans (s _ _ e)) (by simp)
/-- a class's constant, by values -/
def CvR (K : PySem.W.Frag) (f : Str) (Q : VK) (x : V) (H1 : Hp) : Prop := ∃ C mc v u, x = .ref C ∧ ClX.CRead K C mc ∧ ClX.CVal K C mc f v u ∧ Q v H1
theorem r_cval {tc : TE} {f : Str} (q : tc σ H (CvR K f Q)) : ClX.tCVal K tc f σ H Q := q
theorem r_cvalR {f : Str} {C : Addr} {mc : Value} {v : V} (h : ClX.CRead K C mc ∧ ∃ u, ClX.CVal K C mc f v u) (q : Q v H) : CvR K f Q (.ref C) H :=
  let ⟨a, u, b⟩ := h; ⟨C, mc, v, u, rfl, a, b, q⟩
theorem r_augS {to ti : TE} {g : V → V → Hp → VK → Prop} {tip : TIp} {ts : TSet} (q : to σ H fun o H1 => ti σ H1 fun i H2 => g o i H2 fun x H3 => te σ H3 fun y H4 => tip x y H4 fun z H5 => ts o i z H5 fun H6 => D.nx σ H6) : tAugS to ti te g tip ts D σ H := q
/-! ### stores -/
theorem r_gsub {to ti : TE} {ts : TSet} {Q : L2.St → Hp → Prop} (q : to σ H fun o H1 => ti σ H1 fun i H2 => ts o i v H2 fun H3 => Q σ H3) : gSub to ti ts v σ H Q := q
theorem r_setL {p : Addr} {xs : List V} {k : Int} {j : Nat} {Q : Hp → Prop} (h : H p = some (.lst xs)) (e : k = (j : Int)) (l : j < xs.length) (q : Q (upd H p (.lst (xs.set j v)))) : rSetL (.ref p) (.int k) v H Q := by
  subst e
  refine ⟨p, xs, _, j, rfl, rfl, h, ?_, q⟩
  unfold ixN
  rw [if_pos (by omega), if_pos (by omega)]
  rfl
/-! ### == of plain data -/
theorem dpAll_ints : ∀ ns : List Int, DpAll K H (ns.map V.int) (ns.map PyData.int)
  | [] => .nil
  | n :: ns => .cons (.int n) (dpAll_ints ns)
theorem lay_ints : ∀ ns : List Int, PyData.canLayAll0 (ns.map PyData.int) = true ∧ PyData.depthAll (ns.map PyData.int) = 0
  | [] => ⟨rfl, rfl⟩
  | n :: ns => by
    obtain ⟨h1, h2⟩ := lay_ints ns
    constructor
    · show (true && PyData.canLayAll0 (ns.map PyData.int)) = true
      rw [h1]
      rfl
    · show max 0 (PyData.depthAll (ns.map PyData.int)) = 0
      rw [h2]
      rfl
theorem shaped_tupI (ns : List Int) : SeqAt.shaped (.tuple (ns.map PyData.int)) = true := by
  obtain ⟨h1, h2⟩ := lay_ints ns
  show (PyData.canLayAll0 (ns.map PyData.int) && decide (PyData.depthAll (ns.map PyData.int) + 1 ≤ 64)) = true
  rw [h1, h2]
  rfl
theorem shaped_lstI (ns : List Int) : SeqAt.shaped (.list (ns.map PyData.int)) = true := shaped_tupI ns
theorem eqvAll_ints : ∀ ns ms : List Int, PyData.eqvAll (ns.map PyData.int) (ms.map PyData.int) = decide (ns = ms)
  | [], [] => by simp [PyData.eqvAll]
  | [], _ :: _ => by simp [PyData.eqvAll]
  | _ :: _, [] => by simp [PyData.eqvAll]
  | n :: ns, m :: ms => by
    have e := eqvAll_ints ns ms
    simp only [List.map_cons, PyData.eqvAll, e]
    by_cases h : n = m <;> by_cases k : ns = ms <;> simp [PyData.eqv, h, k]
theorem eqv_tupI (ns ms : List Int) : PyData.eqv (.tuple (ns.map PyData.int)) (.tuple (ms.map PyData.int)) = decide (ns = ms) := by
  rw [← eqvAll_ints]
  simp only [PyData.eqv]
theorem eqv_lstI (ns ms : List Int) : PyData.eqv (.list (ns.map PyData.int)) (.list (ms.map PyData.int)) = decide (ns = ms) := by
  rw [← eqvAll_ints]
  simp only [PyData.eqv]
theorem r_eqTI {a b : Addr} {ns ms : List Int} (h : SqT K H a (ns.map V.int)) (k : SqT K H b (ms.map V.int)) (q : Q (.bl (decide (ns = ms))) H) : rEqD K (.ref a) (.ref b) H Q :=
  ⟨_, _, .tup h (dpAll_ints ns), .tup k (dpAll_ints ms), shaped_tupI ns, shaped_tupI ms, by rw [eqv_tupI]; exact q⟩
theorem r_eqD {d e : PyData} (h : Dp K H x d) (k : Dp K H y e) (sd : SeqAt.shaped d = true) (se : SeqAt.shaped e = true) (q : Q (.bl (PyData.eqv d e)) H) : rEqD K x y H Q := ⟨d, e, h, k, sd, se, q⟩
/-- all but one place as it was -/
def SameX (p : Addr) (H H' : Hp) : Prop := ∀ b o, b ≠ p → H b = some o → H' b = some o
theorem SameX.tr {p : Addr} {H H' H2 : Hp} (a : SameX p H H') (s : Same H' H2) : SameX p H H2 := fun b o n e => s b o (a b o n e)
theorem SameX.of {p : Addr} {H H' : Hp} (s : Same H H') : SameX p H H' := fun b o _ e => s b o e
theorem SameX.at {p : Addr} {H H' : Hp} {o : HO} (a : SameX p H H') : SameX p H (upd H' p o) := fun b u n e => by
  rw [upd_ne n]
  exact a b u n e
theorem SameX.mut {p q : Addr} {H H' : Hp} {o : HO} (a : SameX p H H') (h : H q = none) : SameX p H (upd H' q o) := fun b u n e => by
  rw [upd_ne (ne_of_none e h)]
  exact a b u n e
theorem SameX.none {p q : Addr} {H H' : Hp} (a : SameX p H H') (n : q ≠ p) (h : H' q = none) : H q = .none := by
  cases e : H q with
  | none => rfl
  | some o => exact absurd (h.symm.trans (a q o n e)) (by simp)
end
end G57
end
section
set_option maxRecDepth 100000
set_option maxHeartbeats 4000000
/-! XAlk: isinstance readings, an index of a list or a tuple, alike data, a law's drawn numbers. -/
namespace G57
open PySem PySem.Spec PyProof.Rows L2
/-- o[i], o a list or a tuple -/
def rIxS (K : PySem.W.Frag) : R2 := fun x i H Q => rIxL K x i H Q ∨ rIxT K x i H Q
section
variable {X : Cx} {K : PySem.W.Frag} {H : Hp} {Q : VK} {x : V}
theorem ix_any : IxR X (rIxS X.K) := fun value slice pins s σ H x y v u Q I rx ry h hs => by
  rcases h with h | h
  · exact ix_list value slice pins s σ H x y v u Q I rx ry h hs
  · exact ix_tup value slice pins s σ H x y v u Q I rx ry h hs
theorem tyx_int {i : Int} : TyX K H (.int i) (.type "int") := .base (.int i)
theorem tyx_non : TyX K H .non (.type "NoneType") := .base .non
theorem tyx_bl {b : Bool} : TyX K H (.bl b) (.type "bool") := .base (.bl b)
theorem tyx_str {b : Str} : TyX K H (.str b) (.type "str") := .base (.str b)
theorem tyx_sqL {a : Addr} {xs : List V} (h : SqL K H a xs) : TyX K H (.ref a) (.type "list") := by
  rcases h with (h | ⟨o, h⟩) | ⟨o, its, n, h, c, _⟩
  · exact .base (.lst h)
  · exact .base (.frz h)
  · exact .kList h c
theorem tyx_sqT {a : Addr} {xs : List V} (h : SqT K H a xs) : TyX K H (.ref a) (.type "tuple") := by
  rcases h with (h | ⟨o, h⟩) | ⟨o, its, n, h, c, _⟩
  · exact .base (.tup h)
  · exact .fTuple h
  · exact .kTuple h c
theorem r_isi {t c : String} {b : Bool} (h : TyX K H x (.type t)) (k : kitB t c = some b) (q : Q (.bl b) H) : rIsi K [x, .ty c] H Q := ⟨x, .ty c, .type t, .type c, b, rfl, .ty c, h, kit_ty k, q⟩
theorem r_isi2 {t c d : String} {b1 b2 : Bool} {p : Addr} (hp : H p = some (.tup [.ty c, .ty d])) (h : TyX K H x (.type t)) (k1 : kitB t c = some b1) (k2 : kitB t d = some b2) (q : Q (.bl (b1 || b2)) H) : rIsiT K [x, .ref p] H Q :=
  ⟨x, p, [.ty c, .ty d], .type t, [.type c, .type d], b1 || b2, rfl, hp, .cons (.ty c) (.cons (.ty d) .nil), h, kitAny_cons (kit_ty k1) (fun e => by
    subst e
    refine kitAny_cons (kit_ty k2) (fun e => ?_) (fun e => ?_)
    · subst e
      exact kitAny_nil
    · subst e
      rfl) (fun e => by
    subst e
    rfl), q⟩
theorem r_eqS {y : V} (h : scal x y = true) (q : Q (.bl (decide (x = y))) H) : rEq x y H Q := ⟨h, q⟩
theorem r_neS {y : V} (h : scal x y = true) (q : Q (.bl (!decide (x = y))) H) : rNe x y H Q := ⟨h, q⟩
end
/-- a value without parts -/
inductive Flt : V → Prop where
  | int (i : Int) : Flt (.int i)
  | non : Flt .non
  | bl (b : Bool) : Flt (.bl b)
  | str (a : Str) (h : SeqAt.shaped (.str a) = true) : Flt (.str a)
/-- alike, one nesting above A -/
def AlkS (K : PySem.W.Frag) (A : Hp → V → V → Prop) (H : Hp) (x y : V) : Prop := (x = y ∧ Flt x) ∨ ∃ (a b : Addr) (xs ys : List V), x = .ref a ∧ y = .ref b ∧ ((SqL K H a xs ∧ SqL K H b ys) ∨ (SqT K H a xs ∧ SqT K H b ys)) ∧ xs.length = ys.length ∧ xs.length ≤ 100000 ∧ ∀ (i : Nat) u v, xs[i]? = some u → ys[i]? = some v → A H u v
/-- alike: the same numbers, lists and tuples of them, of nesting at most n -/
def AlkD (K : PySem.W.Frag) : Nat → Hp → V → V → Prop
  | 0 => AlkS K fun _ _ _ => False
  | n + 1 => AlkS K (AlkD K n)
theorem same_sqL {K : PySem.W.Frag} {H H' : Hp} {a : Addr} {xs : List V} (e : Same H H') (h : SqL K H a xs) : SqL K H' a xs := by
  rcases h with (h | ⟨o, h⟩) | h
  · exact .inl (.inl (e _ _ h))
  · exact .inl (.inr ⟨o, e _ _ h⟩)
  · exact .inr h
theorem AlkS.mono {K : PySem.W.Frag} {A : Hp → V → V → Prop} (ha : ∀ H H' x y, A H x y → Same H H' → A H' x y) {H H' : Hp} {x y : V} (h : AlkS K A H x y) (s : Same H H') : AlkS K A H' x y := by
  rcases h with h | ⟨a, b, xs, ys, e1, e2, h, l, l2, k⟩
  · exact .inl h
  · refine .inr ⟨a, b, xs, ys, e1, e2, ?_, l, l2, fun i u v h1 h2 => ha _ _ _ _ (k i u v h1 h2) s⟩
    rcases h with h | h
    · exact .inl ⟨same_sqL s h.1, same_sqL s h.2⟩
    · exact .inr ⟨same_sqT s h.1, same_sqT s h.2⟩
theorem AlkD.mono {K : PySem.W.Frag} : ∀ (n : Nat) (H H' : Hp) (x y : V), AlkD K n H x y → Same H H' → AlkD K n H' x y
  | 0, _, _, _, _, h, s => AlkS.mono (fun _ _ _ _ z _ => z) h s
  | n + 1, _, _, _, _, h, s => AlkS.mono (AlkD.mono n) h s
theorem r_eqSelf {K : PySem.W.Frag} {H : Hp} {Q : VK} {x y : V} {d : PyData} (h : Dp K H x d) (h2 : Dp K H y d) (s : SeqAt.shaped d = true) (e : PyData.eqv d d = true) (q : Q (.bl true) H) : rEqD K x y H Q := ⟨d, d, h, h2, s, s, by rw [e]; exact q⟩
theorem r_neSelf {K : PySem.W.Frag} {H : Hp} {Q : VK} {x y : V} {d : PyData} (h : Dp K H x d) (h2 : Dp K H y d) (s : SeqAt.shaped d = true) (e : PyData.eqv d d = true) (q : Q (.bl false) H) : rNeD K x y H Q := ⟨d, d, h, h2, s, s, by rw [e]; exact q⟩
/-- [] != [] -/
theorem r_neNil {K : PySem.W.Frag} {H : Hp} {Q : VK} {p : Addr} (hp : H p = some (.lst [])) (q : ∀ H', Same H H' → Q (.bl false) H') : NwL (fun y H2 => rNeD K (.ref p) y H2 Q) [] H := r_nwL (Nat.le_of_ble_eq_true rfl) fun l hl =>
  r_neSelf (d := .list []) (.lst (sqL_at ((same_new hl) _ _ hp)) .nil) (.lst (sqL_at upd_same) .nil) (by rfl) (by simp [PyData.eqv, PyData.eqvAll]) (q _ (same_new hl))
/-- a list, a tuple, by its type's name -/
def SqN (K : PySem.W.Frag) (t : String) (H : Hp) (a : Addr) (xs : List V) : Prop := (t = "list" ∧ SqL K H a xs) ∨ (t = "tuple" ∧ SqT K H a xs)
theorem SqN.ty {K : PySem.W.Frag} {t : String} {H : Hp} {a : Addr} {xs : List V} (h : SqN K t H a xs) : TyX K H (.ref a) (.type t) := by
  rcases h with ⟨rfl, h⟩ | ⟨rfl, h⟩
  · exact tyx_sqL h
  · exact tyx_sqT h
theorem SqN.mono {K : PySem.W.Frag} {t : String} {H H' : Hp} {a : Addr} {xs : List V} (h : SqN K t H a xs) (s : Same H H') : SqN K t H' a xs := by
  rcases h with ⟨e, h⟩ | ⟨e, h⟩
  · exact .inl ⟨e, same_sqL s h⟩
  · exact .inr ⟨e, same_sqT s h⟩
theorem r_lenN {K : PySem.W.Frag} {t : String} {H : Hp} {a : Addr} {xs : List V} {Q : VK} (h : SqN K t H a xs) (q : Q (.int xs.length) H) : rLenQ K [V.ref a] H Q := by
  rcases h with ⟨_, h⟩ | ⟨_, h⟩
  · exact r_lenL h q
  · exact r_lenT h q
theorem r_ixN {K : PySem.W.Frag} {t : String} {H : Hp} {a : Addr} {xs : List V} {Q : VK} {v : V} {i : Int} {j : Nat} (h : SqN K t H a xs) (e : i = (j : Int)) (l : xs[j]? = some v) (q : Q v H) : rIxS K (.ref a) (.int i) H Q := by
  rcases h with ⟨_, h⟩ | ⟨_, h⟩
  · exact .inl (r_ixL h e l q)
  · exact .inr (r_ixT h e l q)
/-! ### a law's drawn numbers -/
/-- the list that draws: its number, the script's copy, its count -/
def Hat (H : Hp) (h l : Addr) : Prop := ∃ (m c : Int) (xs : List Int), H h = some (.lst [.int m, .ref l, .int c]) ∧ H l = some (.lst (xs.map V.int)) ∧ h ≠ l ∧ 0 ≤ m ∧ m < 2147483647 ∧ 0 ≤ c ∧ xs.length ≤ 63
theorem Hat.mono {H H' : Hp} {h l : Addr} (a : Hat H h l) (s : Same H H') : Hat H' h l := by
  obtain ⟨m, c, xs, e1, e2, r⟩ := a
  exact ⟨m, c, xs, s _ _ e1, s _ _ e2, r⟩
/-- all but the drawing list and its script stay -/
def SameD (h l : Addr) (H H' : Hp) : Prop := ∀ b o, b ≠ h → b ≠ l → H b = some o → H' b = some o
theorem sameD_of {h l : Addr} {H H' : Hp} (s : Same H H') : SameD h l H H' := fun b o _ _ z => s b o z
theorem SameD.tr {h l : Addr} {H H' H2 : Hp} (a : SameD h l H H') (b : SameD h l H' H2) : SameD h l H H2 := fun p o n1 n2 z => b p o n1 n2 (a p o n1 n2 z)
theorem SameD.sm {h l : Addr} {H H' H2 : Hp} (a : SameD h l H H') (b : Same H' H2) : SameD h l H H2 := a.tr (sameD_of b)
/-- what H does not hold may change -/
theorem SameD.mut {h l p : Addr} {H H' : Hp} {o : HO} (a : SameD h l H H') (n : H p = none) : SameD h l H (upd H' p o) := fun b u n1 n2 e => by
  rw [upd_ne (ne_of_none e n)]
  exact a b u n1 n2 e
/-- tuples stay -/
theorem SameD.tup {h l p : Addr} {H H' : Hp} {xs : List V} (a : SameD h l H H') (hh : Hat H h l) (e : H p = some (.tup xs)) : H' p = some (.tup xs) := by
  obtain ⟨m, c, ys, e1, e2, _⟩ := hh
  refine a p _ (fun z => ?_) (fun z => ?_) e
  · subst z
    rw [e] at e1
    cases e1
  · subst z
    rw [e] at e2
    cases e2
theorem SameD.sqT {K : PySem.W.Frag} {h l p : Addr} {H H' : Hp} {xs : List V} (a : SameD h l H H') (hh : Hat H h l) (e : SqT K H p xs) : SqT K H' p xs := by
  have ne : ∀ u : HO, H p = some u → (∀ ys, u ≠ .lst ys) → p ≠ h ∧ p ≠ l := fun u e n => by
    obtain ⟨m, c, ys, e1, e2, _⟩ := hh
    constructor
    · intro z
      subst z
      exact n _ (Option.some.inj (e.symm.trans e1))
    · intro z
      subst z
      exact n _ (Option.some.inj (e.symm.trans e2))
  rcases e with (e | ⟨o, e⟩) | e
  · obtain ⟨n1, n2⟩ := ne _ e fun _ z => by cases z
    exact .inl (.inl (a _ _ n1 n2 e))
  · obtain ⟨n1, n2⟩ := ne _ e fun _ z => by cases z
    exact .inl (.inr ⟨o, a _ _ n1 n2 e⟩)
  · exact .inr e
theorem Hat.ne {h l p : Addr} {H : Hp} (hh : Hat H h l) (e : H p = none) : p ≠ h ∧ p ≠ l := by
  obtain ⟨m, c, ys, e1, e2, _⟩ := hh
  constructor
  · intro z
    subst z
    rw [e] at e1
    cases e1
  · intro z
    subst z
    rw [e] at e2
    cases e2
theorem Hat.mut {h l p : Addr} {H : Hp} {o : HO} (hh : Hat H h l) (n : p ≠ h ∧ p ≠ l) : Hat (upd H p o) h l := by
  obtain ⟨m, c, ys, e1, e2, r⟩ := hh
  exact ⟨m, c, ys, by rw [upd_ne n.1.symm]; exact e1, by rw [upd_ne n.2.symm]; exact e2, r⟩
/-! a list of pairs -/
def PairAt (H : Hp) (v : V) (z : Int × Int) : Prop := ∃ p, v = .ref p ∧ H p = some (.tup [.int z.1, .int z.2])
def Pairs (H : Hp) (vs : List V) (l : List (Int × Int)) : Prop := vs.length = l.length ∧ ∀ (i : Nat) v z, vs[i]? = some v → l[i]? = some z → PairAt H v z
theorem Pairs.mono {H H' : Hp} {vs : List V} {l : List (Int × Int)} (h : Pairs H vs l) (s : Same H H') : Pairs H' vs l := ⟨h.1, fun i v z e1 e2 => let ⟨p, e3, e4⟩ := h.2 i v z e1 e2; ⟨p, e3, s _ _ e4⟩⟩
theorem Pairs.mut {H : Hp} {vs : List V} {l : List (Int × Int)} {D : Addr} {zs zs' : List V} (h : Pairs H vs l) (e : H D = some (.lst zs)) : Pairs (upd H D (.lst zs')) vs l := ⟨h.1, fun i v z e1 e2 => let ⟨p, e3, e4⟩ := h.2 i v z e1 e2; ⟨p, e3, Stab.tup.2 _ _ _ _ e4 e⟩⟩
theorem Pairs.snoc {H : Hp} {vs : List V} {l : List (Int × Int)} {v : V} {z : Int × Int} (h : Pairs H vs l) (k : PairAt H v z) : Pairs H (vs ++ [v]) (l ++ [z]) := by
  refine ⟨by simp [h.1], fun i u y e1 e2 => ?_⟩
  rcases Nat.lt_trichotomy i vs.length with lt | eq | gt
  · rw [List.getElem?_append_left lt] at e1
    rw [List.getElem?_append_left (by have := h.1; omega)] at e2
    exact h.2 i u y e1 e2
  · subst eq
    rw [List.getElem?_append_right (Nat.le_refl _)] at e1
    rw [List.getElem?_append_right (by have := h.1; omega)] at e2
    simp at e1
    simp [h.1] at e2
    subst e1 e2
    exact k
  · rw [List.getElem?_eq_none (by simp; omega)] at e1
    cases e1
theorem Pairs.nil {H : Hp} : Pairs H [] [] := ⟨rfl, fun i v z e _ => by simp at e⟩
theorem Pairs.at {H : Hp} {vs : List V} {l : List (Int × Int)} (h : Pairs H vs l) {i : Nat} {v : V} (e : vs[i]? = some v) : ∃ z, l[i]? = some z ∧ PairAt H v z := by
  have lt := (List.getElem?_eq_some_iff.mp e).1
  have lt2 : i < l.length := by have := h.1; omega
  exact ⟨l[i], List.getElem?_eq_getElem lt2, h.2 i v _ e (List.getElem?_eq_getElem lt2)⟩
theorem drop_at {α : Type} : ∀ {l : List α} {i : Nat} {z : α}, l[i]? = some z → l.drop i = z :: l.drop (i + 1)
  | [], _, _, h => by simp at h
  | a :: l, 0, z, h => by
    have e : a = z := by simpa using h
    rw [e]
    rfl
  | a :: l, i + 1, z, h => drop_at (l := l) (i := i) (by simpa using h)
/-! ### comprehensions that keep nothing; that draw -/
section
variable {K : PySem.W.Frag} {σ : L2.St} {H1 : Hp} {Q : VK} {te : TE} {tt : TT}
theorem lcE_list {a : Addr} {xs : List V} {j : Nat} {vs : List Nat} (hl : H1 a = some (.lst xs)) (hw : ∀ v, wipe ((wipe σ vs).set j (some v)) vs = wipe σ vs)
    (hs : ∀ (i : Nat) (x : V) (H' : Hp) (Z : Bool → Hp → Prop), xs[i]? = some x → Same H1 H' → (∀ H4, Same H' H4 → Z false H4) → tt ((wipe σ vs).set j (some x)) H' Z)
    (hd : ∀ D H', H1 D = none → Same H1 H' → H' D = some (.lst []) → Q (.ref D) H') : LcR (Itl K a) (gName j) tt te vs σ Q H1 := fun D hD =>
  lc_list (xs := xs) (fun _ H' => Same H1 H' ∧ H' D = some (.lst [])) ⟨same_new hD, upd_same⟩ (fun i H' hi p => sqL_same hl p.1) (fun i x H' hx p => ⟨hw _, hs i x H' _ hx p.1 fun H4 s => iteF ⟨sameT p.1 s, s _ _ p.2⟩⟩) fun H' p => hd D H' hD p.1 p.2
theorem lcD_range {h l : Addr} {lo : Int} {n j : Nat} {vs : List Nat} (P : Int → Prop) (hat : Hat H1 h l) (hn : n ≤ 1000) (hw : ∀ v, wipe ((wipe σ vs).set j (some v)) vs = wipe σ vs)
    (hs : ∀ i H' (Z : VK), i < n → Hat H' h l → SameD h l H1 H' → (∀ y H4, Hat H4 h l → SameD h l H' H4 → P y → Z (.int y) H4) → te ((wipe σ vs).set j (some (.int (lo + i)))) H' Z)
    (hd : ∀ D H' (ns : List Int), H1 D = none → Hat H' h l → SameD h l H1 H' → H' D = some (.lst (ns.map V.int)) → ns.length = n → (∀ x ∈ ns, P x) → Q (.ref D) H') : LcR (Itr lo n) (gName j) tYes te vs σ Q H1 := fun D hD => by
  have nD := hat.ne hD
  refine lc_range (fun i H' => Hat H' h l ∧ SameD h l H1 H' ∧ ∃ ns : List Int, H' D = some (.lst (ns.map V.int)) ∧ ns.length = i ∧ ∀ x ∈ ns, P x) ⟨hat.mut nD, (sameD_of sameR).mut hD, [], upd_same, rfl, fun x hx => by cases hx⟩ ?_ ?_
  · rintro i H' hi ⟨hat', sd, ns, e, nl, np⟩
    refine ⟨hw _, tYes_of (hs i H' _ hi hat' sd fun y H4 h4 s4 py => ⟨_, s4 _ _ nD.1 nD.2 e, Nat.lt_of_lt_of_le (show _ < 1001 by rw [List.length_map]; omega) (by decide), h4.mut nD, (sd.tr s4).mut hD, ns ++ [y], by rw [upd_same]; simp, by simp [nl], fun x hx => ?_⟩)⟩
    rcases List.mem_append.mp hx with hx | hx
    · exact np x hx
    · rw [List.mem_singleton.mp hx]
      exact py
  · rintro H' ⟨hat', sd, ns, e, nl, np⟩
    exact hd D H' ns hD hat' sd e nl np
end
end G57
end
section
set_option maxRecDepth 100000
set_option maxHeartbeats 4000000
/-! XAuto: readings whose new heaps are letters; facts found by the way back. -/
namespace G57
open PySem PySem.Spec PyProof.Rows L2
section
variable {K : PySem.W.Frag} {σ : L2.St} {H H' H1 : Hp} {Q : VK} {v x y : V} {ta tb tc te : TE} {D : Ends}
theorem at_s {p : Addr} {o : HO} (s : Same H H') (h : H p = some o) : H' p = some o := s _ _ h
theorem at_upd {p q : Addr} {o u : HO} (n : H q = none) (h : H p = some o) : upd H q u p = some o := (same_new n) _ _ h
theorem atd_tup {h l p : Addr} {xs : List V} (s : SameD h l H H') (hat : Hat H h l) (e : H p = some (.tup xs)) : H' p = some (.tup xs) := s.tup hat e
theorem atd_ins {h l p C dx : Addr} {fs : List (Str × V)} (s : SameD h l H H') (hat : Hat H h l) (e : H p = some (.ins C dx fs)) : H' p = some (.ins C dx fs) := by
  obtain ⟨m, c, ys, e1, e2, _⟩ := hat
  refine s p _ (fun z => ?_) (fun z => ?_) e
  · subst z
    rw [e] at e1
    cases e1
  · subst z
    rw [e] at e2
    cases e2
theorem atd_lst {h l p : Addr} {xs : List V} (s : SameD h l H H') (n : p ≠ h ∧ p ≠ l) (e : H p = some (.lst xs)) : H' p = some (.lst xs) := s _ _ n.1 n.2 e
theorem atx_tup {L p : Addr} {xs zs : List V} (s : SameX L H H') (hl : H L = some (.lst zs)) (e : H p = some (.tup xs)) : H' p = some (.tup xs) := s p _ (fun z => by subst z; rw [hl] at e; cases e) e
theorem atx_ins {L p C dx : Addr} {fs : List (Str × V)} {zs : List V} (s : SameX L H H') (hl : H L = some (.lst zs)) (e : H p = some (.ins C dx fs)) : H' p = some (.ins C dx fs) := s p _ (fun z => by subst z; rw [hl] at e; cases e) e
theorem atx_ne {L p : Addr} {o : HO} (s : SameX L H H') (n : p ≠ L) (e : H p = some o) : H' p = some o := s p _ n e
theorem at_id {p : Addr} {o : HO} (h : H p = some o) : H p = some o := h
theorem sqT_id {a : Addr} {xs : List V} (h : SqT K H a xs) : SqT K H a xs := h
theorem hat_id {h l : Addr} (a : Hat H h l) : Hat H h l := a
theorem pairs_id {vs : List V} {l : List (Int × Int)} (a : Pairs H vs l) : Pairs H vs l := a
theorem ne_id {h l p : Addr} (e : p ≠ h ∧ p ≠ l) : p ≠ h ∧ p ≠ l := e
theorem sqL_s {a : Addr} {xs : List V} (s : Same H H') (h : SqL K H a xs) : SqL K H' a xs := same_sqL s h
theorem sqT_s {a : Addr} {xs : List V} (s : Same H H') (h : SqT K H a xs) : SqT K H' a xs := same_sqT s h
theorem sqT_d {h l a : Addr} {xs : List V} (s : SameD h l H H') (hat : Hat H h l) (e : SqT K H a xs) : SqT K H' a xs := s.sqT hat e
theorem sqT_x {L a : Addr} {xs zs : List V} (s : SameX L H H') (hl : H L = some (.lst zs)) (h : SqT K H a xs) : SqT K H' a xs := by
  have ne : ∀ o : HO, H a = some o → (∀ xs, o ≠ .lst xs) → a ≠ L := fun o e n z => by
    subst z
    rw [hl] at e
    exact n _ (Option.some.inj e).symm
  rcases h with (h | ⟨o, h⟩) | h
  · exact .inl (.inl (s _ _ (ne _ h fun _ z => by cases z) h))
  · exact .inl (.inr ⟨o, s _ _ (ne _ h fun _ z => by cases z) h⟩)
  · exact .inr h
theorem hat_s {h l : Addr} (s : Same H H') (a : Hat H h l) : Hat H' h l := a.mono s
theorem pairs_s {vs : List V} {l : List (Int × Int)} (s : Same H H') (a : Pairs H vs l) : Pairs H' vs l := a.mono s
theorem hat_ne {h l p : Addr} (e : H p = none) (hat : Hat H h l) : p ≠ h ∧ p ≠ l := hat.ne e
theorem sameB {H2 : Hp} (b : Same H' H2) (a : Same H H') : Same H H2 := sameT a b
theorem sameDB {h l : Addr} {H2 : Hp} (b : SameD h l H' H2) (a : SameD h l H H') : SameD h l H H2 := a.tr b
theorem sameDS {h l : Addr} {H2 : Hp} (b : Same H' H2) (a : SameD h l H H') : SameD h l H H2 := a.sm b
/-! new objects -/
theorem a_nwT {xs : List V} (h : xs.length ≤ 1000) (q : ∀ p H', Same H H' → H p = none → H' p = some (.tup xs) → Q (.ref p) H') : NwT Q xs H := r_nwT h fun p hp => q p _ (same_new hp) hp upd_same
theorem a_nwL {xs : List V} (h : xs.length ≤ 1000) (q : ∀ p H', Same H H' → H p = none → H' p = some (.lst xs) → Q (.ref p) H') : NwL Q xs H := r_nwL h fun p hp => q p _ (same_new hp) hp upd_same
theorem a_listL {a : Addr} {xs : List V} (h : SqL K H a xs) (q : ∀ p H', Same H H' → H p = none → H' p = some (.lst xs) → Q (.ref p) H') : rListQ K [V.ref a] H Q := r_listL h fun p hp => q p _ (same_new hp) hp upd_same
theorem a_tupL {a : Addr} {xs : List V} (h : SqL K H a xs) (q : ∀ p H', Same H H' → H p = none → H' p = some (.tup xs) → Q (.ref p) H') : rTupLQ K [V.ref a] H Q := r_tupL h fun p hp => q p _ (same_new hp) hp upd_same
theorem a_cat {a b : Addr} {xs ys : List V} (h : H a = some (.lst xs)) (k : H b = some (.lst ys)) (l : xs.length + ys.length ≤ 100000) (q : ∀ p H', Same H H' → H p = none → H' p = some (.lst (xs ++ ys)) → Q (.ref p) H') : rCat (.ref a) (.ref b) H Q :=
  r_cat h k (Nat.le_trans l (by decide)) fun p hp => q p _ (same_new hp) hp upd_same
theorem a_slL {a : Addr} {xs : List V} {lo hi : Option Int} (h : SqL K H a xs) (q : ∀ p H', Same H H' → H p = none → H' p = some (.lst (cutV xs lo hi)) → Q (.ref p) H') : rSlL K (.ref a) lo hi H Q := r_slL h fun p hp => q p _ (same_new hp) hp upd_same
theorem a_revL {a : Addr} {xs : List V} (h : SqL K H a xs) (q : ∀ p H', Same H H' → H p = none → H' p = some (.lst xs.reverse) → Q (.ref p) H') : ∃ a' ys, V.ref a = .ref a' ∧ SqL K H a' ys ∧ ∀ p, H p = none → Q (.ref p) (upd H p (.lst ys.reverse)) := r_revL h fun p hp => q p _ (same_new hp) hp upd_same
theorem a_append {a : Addr} {xs : List V} (h : H a = some (.lst xs)) (l : xs.length < 100000) (q : ∀ H', SameX a H H' → H' a = some (.lst (xs ++ [v])) → Q .non H') : rAppend (.ref a) [v] H Q := r_append h l (q _ (SameX.at (SameX.of sameR)) upd_same)
theorem r_p6 (q : Q (.int 1000000) H) : rI CPow (fun i j => V.int (i ^ j.toNat)) (.int 10) (.int 6) H Q := ⟨10, 6, rfl, rfl, ⟨by decide, by decide, by decide⟩, by
  show Q (.int ((10 : Int) ^ (6 : Int).toNat)) H
  have e : (10 : Int) ^ (6 : Int).toNat = 1000000 := by decide
  rw [e]
  exact q⟩
theorem r_p8 (q : Q (.int 100000000) H) : rI CPow (fun i j => V.int (i ^ j.toNat)) (.int 10) (.int 8) H Q := ⟨10, 8, rfl, rfl, ⟨by decide, by decide, by decide⟩, by
  show Q (.int ((10 : Int) ^ (8 : Int).toNat)) H
  have e : (10 : Int) ^ (8 : Int).toNat = 100000000 := by decide
  rw [e]
  exact q⟩
theorem r_p9 (q : Q (.int 1000000000) H) : rI CPow (fun i j => V.int (i ^ j.toNat)) (.int 10) (.int 9) H Q := ⟨10, 9, rfl, rfl, ⟨by decide, by decide, by decide⟩, by
  show Q (.int ((10 : Int) ^ (9 : Int).toNat)) H
  have e : (10 : Int) ^ (9 : Int).toNat = 1000000000 := by decide
  rw [e]
  exact q⟩
theorem r_p10 (q : Q (.int 10000000000) H) : rI CPow (fun i j => V.int (i ^ j.toNat)) (.int 10) (.int 10) H Q := ⟨10, 10, rfl, rfl, ⟨by decide, by decide, by decide⟩, by
  show Q (.int ((10 : Int) ^ (10 : Int).toNat)) H
  have e : (10 : Int) ^ (10 : Int).toNat = 10000000000 := by decide
  rw [e]
  exact q⟩
theorem r_p12 (q : Q (.int 1000000000000) H) : rI CPow (fun i j => V.int (i ^ j.toNat)) (.int 10) (.int 12) H Q := ⟨10, 12, rfl, rfl, ⟨by decide, by decide, by decide⟩, by
  show Q (.int ((10 : Int) ^ (12 : Int).toNat)) H
  have e : (10 : Int) ^ (12 : Int).toNat = 1000000000000 := by decide
  rw [e]
  exact q⟩
theorem r_p14 (q : Q (.int 100000000000000) H) : rI CPow (fun i j => V.int (i ^ j.toNat)) (.int 10) (.int 14) H Q := ⟨10, 14, rfl, rfl, ⟨by decide, by decide, by decide⟩, by
  show Q (.int ((10 : Int) ^ (14 : Int).toNat)) H
  have e : (10 : Int) ^ (14 : Int).toNat = 100000000000000 := by decide
  rw [e]
  exact q⟩
theorem r_p15 (q : Q (.int 1000000000000000) H) : rI CPow (fun i j => V.int (i ^ j.toNat)) (.int 10) (.int 15) H Q := ⟨10, 15, rfl, rfl, ⟨by decide, by decide, by decide⟩, by
  show Q (.int ((10 : Int) ^ (15 : Int).toNat)) H
  have e : (10 : Int) ^ (15 : Int).toNat = 1000000000000000 := by decide
  rw [e]
  exact q⟩
theorem r_p17 (q : Q (.int 100000000000000000) H) : rI CPow (fun i j => V.int (i ^ j.toNat)) (.int 10) (.int 17) H Q := ⟨10, 17, rfl, rfl, ⟨by decide, by decide, by decide⟩, by
  show Q (.int ((10 : Int) ^ (17 : Int).toNat)) H
  have e : (10 : Int) ^ (17 : Int).toNat = 100000000000000000 := by decide
  rw [e]
  exact q⟩
theorem r_p18 (q : Q (.int 1000000000000000000) H) : rI CPow (fun i j => V.int (i ^ j.toNat)) (.int 10) (.int 18) H Q := ⟨10, 18, rfl, rfl, ⟨by decide, by decide, by decide⟩, by
  show Q (.int ((10 : Int) ^ (18 : Int).toNat)) H
  have e : (10 : Int) ^ (18 : Int).toNat = 1000000000000000000 := by decide
  rw [e]
  exact q⟩
theorem a_lenLI {a : Addr} {ns : List Int} (h : SqL K H a (ns.map V.int)) (q : Q (.int ns.length) H) : rLenQ K [.ref a] H Q := r_lenL h (by rw [List.length_map]; exact q)
theorem a_rng2v {i j : Int} {R : It → Hp → Prop} (h1 : -4611686018427387904 ≤ i) (h2 : i < 4611686018427387904) (h3 : -4611686018427387904 ≤ j) (h4 : j < 4611686018427387904) (q : R (Itr i (j - i).toNat) H) : ∃ i' j' : Int, [V.int i, V.int j] = [.int i', .int j'] ∧ (-(2 ^ 62) ≤ i' ∧ i' < 2 ^ 62 ∧ -(2 ^ 62) ≤ j' ∧ j' < 2 ^ 62) ∧ R (Itr i' (j' - i').toNat) H := ⟨i, j, rfl, ⟨h1, h2, h3, h4⟩, q⟩
theorem a_rng1v {j : Int} {R : It → Hp → Prop} (h1 : -4611686018427387904 ≤ j) (h2 : j < 4611686018427387904) (q : R (Itr 0 j.toNat) H) : ∃ j' : Int, [V.int j] = [.int j'] ∧ -(2 ^ 62) ≤ j' ∧ j' < 2 ^ 62 ∧ R (Itr 0 j'.toNat) H := ⟨j, rfl, h1, h2, q⟩
theorem a_iTv {a : Addr} {xs : List V} {R : It → Hp → Prop} (h : SqT K H a xs) (q : R (Itt K a) H) : ∃ a', V.ref a = .ref a' ∧ (∃ xs, SqT K H a' xs) ∧ R (Itt K a') H := ⟨a, rfl, ⟨xs, h⟩, q⟩
theorem zNF {Z : Bool → Hp → Prop} {p : Prop} [Decidable p] (h : p) (q : Z false H) : Z (!decide p) H := by
  rw [decide_eq_true h]
  exact q
theorem zF {Z : Bool → Hp → Prop} {p : Prop} [Decidable p] (h : ¬ p) (q : Z false H) : Z (decide p) H := by
  rw [decide_eq_false h]
  exact q
theorem zT {Z : Bool → Hp → Prop} {p : Prop} [Decidable p] (h : p) (q : Z true H) : Z (decide p) H := by
  rw [decide_eq_true h]
  exact q
/-! an item of a short list of ints -/
theorem a_pick2 {a : Addr} {p q r : Int} (h : SqL K H a [.int p, .int q]) (r0 : 0 ≤ r) (r1 : r < 2) (k : ∀ z, z = p ∨ z = q → Q (.int z) H) : rIxL K (.ref a) (.int r) H Q := by
  rcases (by omega : r = 0 ∨ r = 1) with e | e <;> subst e
  · exact r_ixL h (j := 0) rfl rfl (k p (.inl rfl))
  · exact r_ixL h (j := 1) rfl rfl (k q (.inr rfl))
theorem a_pick3 {a : Addr} {p q s r : Int} (h : SqL K H a [.int p, .int q, .int s]) (r0 : 0 ≤ r) (r1 : r < 3) (k : ∀ z, z = p ∨ z = q ∨ z = s → Q (.int z) H) : rIxL K (.ref a) (.int r) H Q := by
  rcases (by omega : r = 0 ∨ r = 1 ∨ r = 2) with e | e | e <;> subst e
  · exact r_ixL h (j := 0) rfl rfl (k p (.inl rfl))
  · exact r_ixL h (j := 1) rfl rfl (k q (.inr (.inl rfl)))
  · exact r_ixL h (j := 2) rfl rfl (k s (.inr (.inr rfl)))
theorem a_pick4 {a : Addr} {p q s t r : Int} (h : SqL K H a [.int p, .int q, .int s, .int t]) (r0 : 0 ≤ r) (r1 : r < 4) (k : ∀ z, z = p ∨ z = q ∨ z = s ∨ z = t → Q (.int z) H) : rIxL K (.ref a) (.int r) H Q := by
  rcases (by omega : r = 0 ∨ r = 1 ∨ r = 2 ∨ r = 3) with e | e | e | e <;> subst e
  · exact r_ixL h (j := 0) rfl rfl (k p (.inl rfl))
  · exact r_ixL h (j := 1) rfl rfl (k q (.inr (.inl rfl)))
  · exact r_ixL h (j := 2) rfl rfl (k s (.inr (.inr (.inl rfl))))
  · exact r_ixL h (j := 3) rfl rfl (k t (.inr (.inr (.inr rfl))))
/-! comprehensions over lists of ints -/
theorem lcE_ints {tt : TT} {a : Addr} {xs : List Int} {j : Nat} (hl : H1 a = some (.lst (xs.map V.int)))
    (hs : ∀ (x : Int) (H' : Hp) (Z : Bool → Hp → Prop), x ∈ xs → Same H1 H' → (∀ H4, Same H' H4 → Z false H4) → SetR j (.int x) (fun s => tt s H' Z) σ)
    (hd : ∀ D H', H1 D = none → Same H1 H' → H' D = some (.lst []) → Q (.ref D) H') : LcR (Itl K a) (gName j) tt te [j] σ Q H1 :=
  lcE_list hl wipe1' (fun i x H' Z hx s z => by
    rw [wipe1]
    obtain ⟨y, hy, rfl⟩ : ∃ y, xs[i]? = some y ∧ V.int y = x := by simpa using hx
    exact hs y H' Z (List.mem_of_getElem? hy) s z) hd
/-- a comprehension whose items are ints told by their places -/
theorem lcI_range {lo : Int} {n j : Nat} (f : Nat → Int) (hn : n ≤ 100000)
    (hs : ∀ i H' (Z : VK), i < n → Same H1 H' → (∀ H4, Same H' H4 → Z (.int (f i)) H4) → SetR j (.int (lo + i)) (fun s => te s H' Z) σ)
    (hd : ∀ D H', H1 D = none → Same H1 H' → H' D = some (.lst (((List.range n).map f).map V.int)) → Q (.ref D) H') : LcR (Itr lo n) (gName j) tYes te [j] σ Q H1 :=
  lcN_range (fun i v _ => v = .int (f i)) (fun _ _ => Stab.triv) (Nat.le_trans hn (by decide)) wipe1' (fun i H' Z hi s z => by
    rw [wipe1]
    exact hs i H' Z hi s fun H4 s4 => z _ _ s4 rfl) fun D H' ys hD s e l h => hd D H' hD s (by rw [e, ints_of l h])
theorem map_at {xs : List Int} {ys : List V} {f : Int → Int} (l : ys.length = xs.length) (h : ∀ (i : Nat) (y : V), ys[i]? = some y → ∃ x, xs[i]? = some x ∧ y = V.int (f x)) : ys = (xs.map f).map V.int := by
  refine List.ext_getElem? fun i => ?_
  by_cases lt : i < ys.length
  · obtain ⟨x, hx, e⟩ := h i _ (List.getElem?_eq_getElem lt)
    rw [List.getElem?_eq_getElem lt, e, List.getElem?_map, List.getElem?_map, hx]
    rfl
  · rw [List.getElem?_eq_none (by omega), List.getElem?_eq_none (by simp; omega)]
theorem lcI_list {a : Addr} {xs : List Int} {j : Nat} (f : Int → Int) (hl : H1 a = some (.lst (xs.map V.int))) (hn : xs.length ≤ 100000)
    (hs : ∀ x H' (Z : VK), x ∈ xs → Same H1 H' → (∀ H4, Same H' H4 → Z (.int (f x)) H4) → SetR j (.int x) (fun s => te s H' Z) σ)
    (hd : ∀ D H', H1 D = none → Same H1 H' → H' D = some (.lst ((xs.map f).map V.int)) → Q (.ref D) H') : LcR (Itl K a) (gName j) tYes te [j] σ Q H1 :=
  lcN_list (fun i v _ => ∃ x, xs[i]? = some x ∧ v = .int (f x)) (fun _ _ => Stab.triv) hl (Nat.le_trans (by rw [List.length_map]; exact hn) (by decide : 100000 ≤ sizeLine)) wipe1' (fun i v H' Z hx s z => by
    rw [wipe1]
    obtain ⟨y, hy, rfl⟩ : ∃ y, xs[i]? = some y ∧ V.int y = v := by simpa using hx
    exact hs y H' Z (List.mem_of_getElem? hy) s fun H4 s4 => z _ _ s4 ⟨y, hy, rfl⟩) fun D H' ys hD s e l h => hd D H' hD s (by rw [e, map_at (by rw [l, List.length_map]) h])
theorem lcI_tup {a : Addr} {xs : List Int} {j : Nat} (f : Int → Int) (hl : SqT K H1 a (xs.map V.int)) (hn : xs.length ≤ 100000)
    (hs : ∀ x H' (Z : VK), x ∈ xs → Same H1 H' → (∀ H4, Same H' H4 → Z (.int (f x)) H4) → SetR j (.int x) (fun s => te s H' Z) σ)
    (hd : ∀ D H', H1 D = none → Same H1 H' → H' D = some (.lst ((xs.map f).map V.int)) → Q (.ref D) H') : LcR (Itt K a) (gName j) tYes te [j] σ Q H1 :=
  lcN_tup (fun i v _ => ∃ x, xs[i]? = some x ∧ v = .int (f x)) (fun _ _ => Stab.triv) hl (Nat.le_trans (by rw [List.length_map]; exact hn) (by decide : 100000 ≤ sizeLine)) wipe1' (fun i v H' Z hx s z => by
    rw [wipe1]
    obtain ⟨y, hy, rfl⟩ : ∃ y, xs[i]? = some y ∧ V.int y = v := by simpa using hx
    exact hs y H' Z (List.mem_of_getElem? hy) s fun H4 s4 => z _ _ s4 ⟨y, hy, rfl⟩) fun D H' ys hD s e l h => hd D H' hD s (by rw [e, map_at (by rw [l, List.length_map]) h])
/-- a drawing comprehension: ints that keep a word -/
theorem lcD_ints {h l : Addr} {lo : Int} {n j : Nat} (P : Int → Prop) (hat : Hat H1 h l) (hn : n ≤ 1000)
    (hs : ∀ (i : Nat) H' (Z : VK), i < n → Hat H' h l → SameD h l H1 H' → (∀ y H4, Hat H4 h l → SameD h l H' H4 → P y → Z (.int y) H4) → SetR j (.int (lo + i)) (fun s => te s H' Z) σ)
    (hd : ∀ D H' (ns : List Int), Hat H' h l → SameD h l H1 H' → H1 D = none → H' D = some (.lst (ns.map V.int)) → ns.length = n → (∀ x ∈ ns, P x) → Q (.ref D) H') : LcR (Itr lo n) (gName j) tYes te [j] σ Q H1 :=
  lcD_range P hat hn wipe1' (fun i H' Z a b c d => by
    rw [wipe1]
    exact hs i H' Z a b c d) fun D H' ns a b c d e f => hd D H' ns b c a d e f
/-- a filter over a range that keeps some -/
theorem lcF_range {tt : TT} {lo : Int} {n j : Nat} (p : Nat → Bool) (f : Nat → Int) (hn : n ≤ 100000)
    (ht : ∀ i H' (Z : Bool → Hp → Prop), i < n → Same H1 H' → (∀ H4, Same H' H4 → Z (p i) H4) → SetR j (.int (lo + (i : Nat))) (fun s => tt s H' Z) σ)
    (hs : ∀ i H' (Z : VK), i < n → p i = true → Same H1 H' → (∀ H4, Same H' H4 → Z (.int (f i)) H4) → SetR j (.int (lo + (i : Nat))) (fun s => te s H' Z) σ)
    (hd : ∀ D H', H1 D = none → Same H1 H' → H' D = some (.lst ((((List.range n).filter p).map f).map V.int)) → Q (.ref D) H') : LcR (Itr lo n) (gName j) tt te [j] σ Q H1 := fun D hD => by
  refine lc_range (fun i H' => Same H1 H' ∧ H' D = some (.lst ((((List.range i).filter p).map f).map V.int))) ⟨same_new hD, by rw [upd_same]; rfl⟩ ?_ fun H' p => hd D H' hD p.1 p.2
  rintro i H' hi ⟨s1, e1⟩
  refine ⟨wipe1' _, ?_⟩
  rw [wipe1]
  have len : ((((List.range i).filter p).map f).map V.int).length ≤ i := by
    rw [List.length_map, List.length_map]
    exact Nat.le_trans (List.length_filter_le _ _) (by rw [List.length_range]; exact Nat.le_refl _)
  refine ht i H' _ hi s1 fun H4 s4 => ?_
  have s14 := sameT s1 s4
  have e4 := s4 _ _ e1
  cases hp : p i with
  | false =>
    refine iteF ⟨s14, ?_⟩
    rw [e4, List.range_succ, List.filter_append]
    simp [hp]
  | true =>
    refine iteT (hs i H4 _ hi hp s14 fun H5 s5 => ⟨_, s5 _ _ e4, Nat.lt_of_lt_of_le (show _ < 100001 by omega) (by decide), same_mut (sameT s14 s5) hD, ?_⟩)
    rw [upd_same, List.range_succ, List.filter_append]
    simp [hp]
theorem lcE_range {tt : TT} {lo : Int} {n j : Nat} (hn : n ≤ 100000)
    (ht : ∀ i H' (Z : Bool → Hp → Prop), i < n → Same H1 H' → (∀ H4, Same H' H4 → Z false H4) → SetR j (.int (lo + (i : Nat))) (fun s => tt s H' Z) σ)
    (hd : ∀ D H', H1 D = none → Same H1 H' → H' D = some (.lst []) → Q (.ref D) H') : LcR (Itr lo n) (gName j) tt te [j] σ Q H1 :=
  lcF_range (fun _ => false) (fun _ => 0) hn ht (fun _ _ _ _ z => by cases z) fun D H' hD s e => hd D H' hD s (by
    rw [e]
    simp)
theorem ix_rng {f : Nat → Int} {n i : Nat} (h : i < n) : (((List.range n).map f).map V.int)[i]? = some (.int (f i)) := by
  rw [List.getElem?_map, List.getElem?_map, List.getElem?_range h]
  rfl
/-- a comprehension over a list of pairs -/
theorem lcP_list {a : Addr} {us : List V} {l : List (Int × Int)} {i j : Nat} (R : Nat → V → Hp → Prop) (hR : ∀ i v, Stab (R i v)) (nij : i ≠ j) (hl : H1 a = some (.lst us)) (hp : Pairs H1 us l) (hn : l.length ≤ 100000)
    (hs : ∀ k z H' (Z : VK), l[k]? = some z → Same H1 H' → (∀ y H4, Same H' H4 → R k y H4 → Z y H4) → SetR i (.int z.1) (SetR j (.int z.2) fun s => te s H' Z) σ)
    (hd : ∀ D H' ys, H1 D = none → Same H1 H' → H' D = some (.lst ys) → ys.length = l.length → (∀ k y, ys[k]? = some y → R k y H') → Q (.ref D) H') :
    LcR (Itl K a) (gTup K 2 (gCons (gName i) (gCons (gName j) gNil))) tYes te [i, j] σ Q H1 := fun D hD => by
  have ul : us.length = l.length := hp.1
  refine lc_list (xs := us) (LcP H1 D R) (lcP_0 hD) (fun k H' hk p => sqL_same hl p.choose_spec.2.2.1) (fun k x H' hx p => ?_) fun H' p => by
    obtain ⟨ys, e, le, s, hr⟩ := p
    exact hd D H' ys hD s e (le.trans ul) hr
  have s := p.choose_spec.2.2.1
  obtain ⟨z, hz, q, rfl, hq⟩ := (hp.mono s).at hx
  have lt := (List.getElem?_eq_some_iff.mp hz).1
  refine r_gtup (sqT_at hq) rfl ?_
  refine r_gcons ?_
  refine r_gname ?_
  refine r_setU ?_
  refine r_gcons ?_
  refine r_gname ?_
  refine r_setU ?_
  refine r_gnil ?_
  rw [wipe2 nij]
  refine ⟨wipe2' nij _ _, tYes_of (hs k z H' _ hz s fun y H4 s4 r => lcP_step hR (show l.length ≤ sizeLine from Nat.le_trans hn (by decide)) lt hD p s4 r)⟩
theorem stab_pair {v : V} {z : Int × Int} : Stab fun H => PairAt H v z := Stab.ex fun _ => Stab.and Stab.triv Stab.tup
theorem lcPP_list {a : Addr} {us : List V} {l : List (Int × Int)} {i j : Nat} (f : Int × Int → Int × Int) (nij : i ≠ j) (hl : H1 a = some (.lst us)) (hp : Pairs H1 us l) (hn : l.length ≤ 100000)
    (hs : ∀ z H' (Z : VK), z ∈ l → Same H1 H' → (∀ y H4, Same H' H4 → PairAt H4 y (f z) → Z y H4) → SetR i (.int z.1) (SetR j (.int z.2) fun s => te s H' Z) σ)
    (hd : ∀ D H' ys, H1 D = none → Same H1 H' → H' D = some (.lst ys) → Pairs H' ys (l.map f) → Q (.ref D) H') :
    LcR (Itl K a) (gTup K 2 (gCons (gName i) (gCons (gName j) gNil))) tYes te [i, j] σ Q H1 :=
  lcP_list (fun k v H => ∃ z, l[k]? = some z ∧ PairAt H v (f z)) (fun _ _ => Stab.ex fun _ => Stab.and Stab.triv stab_pair) nij hl hp hn (fun k z H' Z hz s c => hs z H' Z (List.mem_of_getElem? hz) s fun y H4 s4 r => c y H4 s4 ⟨z, hz, r⟩) fun D H' ys hD s e le hr => hd D H' ys hD s e ⟨by rw [le, List.length_map], fun k v z e1 e2 => by
    obtain ⟨z', hz', r⟩ := hr k v e1
    rw [List.getElem?_map, hz'] at e2
    rw [← Option.some.inj e2]
    exact r⟩
theorem lcPI_list {a : Addr} {us : List V} {l : List (Int × Int)} {i j : Nat} (f : Int × Int → Int) (nij : i ≠ j) (hl : H1 a = some (.lst us)) (hp : Pairs H1 us l) (hn : l.length ≤ 100000)
    (hs : ∀ z H' (Z : VK), z ∈ l → Same H1 H' → (∀ H4, Same H' H4 → Z (.int (f z)) H4) → SetR i (.int z.1) (SetR j (.int z.2) fun s => te s H' Z) σ)
    (hd : ∀ D H', H1 D = none → Same H1 H' → H' D = some (.lst ((l.map f).map V.int)) → Q (.ref D) H') :
    LcR (Itl K a) (gTup K 2 (gCons (gName i) (gCons (gName j) gNil))) tYes te [i, j] σ Q H1 :=
  lcP_list (fun k v _ => ∃ z, l[k]? = some z ∧ v = .int (f z)) (fun _ _ => Stab.triv) nij hl hp hn (fun k z H' Z hz s c => hs z H' Z (List.mem_of_getElem? hz) s fun H4 s4 => c _ H4 s4 ⟨z, hz, rfl⟩) fun D H' ys hD s e le hr => hd D H' hD s (by
    rw [e]
    congr 2
    refine List.ext_getElem? fun k => ?_
    by_cases lt : k < ys.length
    · obtain ⟨z, hz, r⟩ := hr k _ (List.getElem?_eq_getElem lt)
      rw [List.getElem?_eq_getElem lt, r, List.getElem?_map, List.getElem?_map, hz]
      rfl
    · rw [List.getElem?_eq_none (by omega), List.getElem?_eq_none (by simp; omega)])
theorem a_neNil {p : Addr} (hp : SqL K H p []) (q : ∀ H', Same H H' → Q (.bl false) H') : NwL (fun y H2 => rNeD K (.ref p) y H2 Q) [] H := a_nwL (Nat.le_of_ble_eq_true rfl) fun l H' s _ e =>
  r_neSelf (d := .list []) (.lst (same_sqL s hp) .nil) (.lst (sqL_at e) .nil) (by rfl) (by simp [PyData.eqv, PyData.eqvAll]) (q _ s)
theorem a_eqNil {p : Addr} (hp : SqL K H p []) (q : ∀ H', Same H H' → Q (.bl true) H') : NwL (fun y H2 => rEqD K (.ref p) y H2 Q) [] H := a_nwL (Nat.le_of_ble_eq_true rfl) fun l H' s _ e =>
  r_eqSelf (d := .list []) (.lst (same_sqL s hp) .nil) (.lst (sqL_at e) .nil) (by rfl) (by simp [PyData.eqv, PyData.eqvAll]) (q _ s)
theorem a_neSelf {d : PyData} (h : Dp K H x d) (h2 : Dp K H y d) (s : SeqAt.shaped d = true) (e : PyData.eqv d d = true) (q : Q (.bl false) H) : rNeD K x y H Q := r_neSelf h h2 s e q
theorem a_eqSelf {d : PyData} (h : Dp K H x d) (h2 : Dp K H y d) (s : SeqAt.shaped d = true) (e : PyData.eqv d d = true) (q : Q (.bl true) H) : rEqD K x y H Q := r_eqSelf h h2 s e q
/-- == of lists of ints -/
theorem a_eqLI {a b : Addr} {ns ms : List Int} (h : SqL K H a (ns.map V.int)) (k : SqL K H b (ms.map V.int)) (q : Q (.bl (decide (ns = ms))) H) : rEqD K (.ref a) (.ref b) H Q :=
  ⟨_, _, .lst h (dpAll_ints ns), .lst k (dpAll_ints ms), shaped_lstI ns, shaped_lstI ms, by rw [eqv_lstI]; exact q⟩
theorem a_neLI {a b : Addr} {ns ms : List Int} (h : SqL K H a (ns.map V.int)) (k : SqL K H b (ms.map V.int)) (q : Q (.bl (!decide (ns = ms))) H) : rNeD K (.ref a) (.ref b) H Q :=
  ⟨_, _, .lst h (dpAll_ints ns), .lst k (dpAll_ints ms), shaped_lstI ns, shaped_lstI ms, by rw [eqv_lstI]; exact q⟩
theorem a_neTI {a b : Addr} {ns ms : List Int} (h : SqT K H a (ns.map V.int)) (k : SqT K H b (ms.map V.int)) (q : Q (.bl (!decide (ns = ms))) H) : rNeD K (.ref a) (.ref b) H Q :=
  ⟨_, _, .tup h (dpAll_ints ns), .tup k (dpAll_ints ms), shaped_tupI ns, shaped_tupI ms, by rw [eqv_tupI]; exact q⟩
end
/-! ### alike data, by shapes -/
theorem alk0_int {K : PySem.W.Frag} {H : Hp} {i j : Int} (e : i = j) : AlkD K 0 H (.int i) (.int j) := .inl ⟨by rw [e], .int i⟩
theorem alk_int {K : PySem.W.Frag} {n : Nat} {H : Hp} {i j : Int} (e : i = j) : AlkD K n H (.int i) (.int j) := by
  subst e
  cases n with
  | zero => exact .inl ⟨rfl, .int i⟩
  | succ n => exact .inl ⟨rfl, .int i⟩
theorem alk_non {K : PySem.W.Frag} {n : Nat} {H : Hp} : AlkD K n H .non .non := by
  cases n with
  | zero => exact .inl ⟨rfl, .non⟩
  | succ n => exact .inl ⟨rfl, .non⟩
theorem alk_bl {K : PySem.W.Frag} {n : Nat} {H : Hp} {b : Bool} : AlkD K n H (.bl b) (.bl b) := by
  cases n with
  | zero => exact .inl ⟨rfl, .bl b⟩
  | succ n => exact .inl ⟨rfl, .bl b⟩
/-- items alike, one by one -/
inductive AlkL (K : PySem.W.Frag) (n : Nat) (H : Hp) : List V → List V → Prop where
  | nil : AlkL K n H [] []
  | cons {x y : V} {xs ys : List V} (h : AlkD K n H x y) (t : AlkL K n H xs ys) : AlkL K n H (x :: xs) (y :: ys)
theorem AlkL.len {K : PySem.W.Frag} {n : Nat} {H : Hp} : ∀ {xs ys : List V}, AlkL K n H xs ys → xs.length = ys.length
  | _, _, .nil => rfl
  | _, _, .cons _ t => by rw [List.length_cons, List.length_cons, t.len]
theorem AlkL.at {K : PySem.W.Frag} {n : Nat} {H : Hp} : ∀ {xs ys : List V}, AlkL K n H xs ys → ∀ (i : Nat) u v, xs[i]? = some u → ys[i]? = some v → AlkD K n H u v
  | _, _, .nil, i, u, v, h, _ => by simp at h
  | _, _, .cons h t, 0, u, v, h1, h2 => by
    cases h1
    cases h2
    exact h
  | _, _, .cons h t, i + 1, u, v, h1, h2 => t.at i u v (by simpa using h1) (by simpa using h2)
theorem alk_lst {K : PySem.W.Frag} {n : Nat} {H : Hp} {a b : Addr} {xs ys : List V} (h : SqL K H a xs) (k : SqL K H b ys) (l : xs.length ≤ 100000) (t : AlkL K n H xs ys) : AlkD K (n + 1) H (.ref a) (.ref b) := .inr ⟨a, b, xs, ys, rfl, rfl, .inl ⟨h, k⟩, t.len, l, t.at⟩
theorem alk_tup {K : PySem.W.Frag} {n : Nat} {H : Hp} {a b : Addr} {xs ys : List V} (h : SqT K H a xs) (k : SqT K H b ys) (l : xs.length ≤ 100000) (t : AlkL K n H xs ys) : AlkD K (n + 1) H (.ref a) (.ref b) := .inr ⟨a, b, xs, ys, rfl, rfl, .inr ⟨h, k⟩, t.len, l, t.at⟩
theorem alk_ints {K : PySem.W.Frag} {n : Nat} {H : Hp} : ∀ {ns ms : List Int}, ns = ms → AlkL K n H (ns.map V.int) (ms.map V.int)
  | [], _, e => by
    subst e
    exact .nil
  | n :: ns, _, e => by
    subst e
    exact .cons (alk_int rfl) (alk_ints rfl)
theorem alk_pairs {K : PySem.W.Frag} {H : Hp} {vs ws : List V} {l : List (Int × Int)} (hv : Pairs H vs l) (hw : Pairs H ws l) (n : Nat) : ∀ (i : Nat) u v, vs[i]? = some u → ws[i]? = some v → AlkD K (n + 1) H u v := fun i u v h1 h2 => by
  obtain ⟨z, hz, p, rfl, hp⟩ := hv.at h1
  obtain ⟨z2, hz2, q, rfl, hq⟩ := hw.at h2
  have e : z = z2 := Option.some.inj (hz.symm.trans hz2)
  subst e
  exact alk_tup (sqT_at hp) (sqT_at hq) (by simp) (.cons (alk_int rfl) (.cons (alk_int rfl) .nil))
theorem alk_prs {K : PySem.W.Frag} {H : Hp} {a b : Addr} {vs ws : List V} {l : List (Int × Int)} (n : Nat) (h : SqL K H a vs) (k : SqL K H b ws) (ll : l.length ≤ 100000) (hv : Pairs H vs l) (hw : Pairs H ws l) : AlkD K (n + 2) H (.ref a) (.ref b) :=
  .inr ⟨a, b, vs, ws, rfl, rfl, .inl ⟨h, k⟩, by rw [hv.1, hw.1], by have := hv.1; omega, alk_pairs hv hw n⟩
end G57
end
section
set_option maxRecDepth 100000
set_option maxHeartbeats 4000000
/-! XB: the second family's drawing list; instances that are called. -/
namespace G57
open PySem PySem.Spec PyProof.Rows L2
/-! ### the drawing list -/
def hid (h : Addr) (H : Hp) : Hp := fun b => if b = h then none else H b
theorem hid_same {h : Addr} {H : Hp} : Same (hid h H) H := fun b o e => by
  unfold hid at e
  split at e
  · cases e
  · exact e
theorem hid_ne {h b : Addr} {H : Hp} (n : b ≠ h) : hid h H b = H b := if_neg n
theorem hid_d {h : Addr} {H H' : Hp} (s : SameD h h H H') : Same (hid h H) (hid h H') := fun b o e => by
  unfold hid at e
  split at e
  · cases e
  · rename_i n
    rw [hid_ne n]
    exact s b o n n e
theorem hid_new {h : Addr} {H : Hp} {o : HO} (n : H h = none) : Same H (hid h (upd H h o)) := fun b u e => by
  have ne := ne_of_none e n
  rw [hid_ne ne, upd_ne ne]
  exact e
/-- script, place, number, rest -/
def HatB (K : PySem.W.Frag) (H : Hp) (h a : Addr) : Prop := ∃ (ns : List Int) (p m r : Int), H h = some (.lst [.ref a, .int p, .int m, .int r]) ∧ SqL K (hid h H) a (ns.map V.int) ∧ ns.length ≤ 63 ∧ 0 ≤ p ∧ 0 ≤ m ∧ m < 2147483647 ∧ 0 ≤ r
section
variable {K : PySem.W.Frag} {H H' H2 : Hp} {h a p : Addr}
theorem HatB.mono (w : HatB K H h a) (s : Same H H') : HatB K H' h a := by
  obtain ⟨ns, p, m, r, e, q, z⟩ := w
  exact ⟨ns, p, m, r, s _ _ e, same_sqL (hid_d (sameD_of s)) q, z⟩
theorem HatB.lst (w : HatB K H h a) : ∃ xs, H h = some (.lst xs) := let ⟨_, _, _, _, e, _⟩ := w; ⟨_, e⟩
theorem hatB_s (s : Same H H') (w : HatB K H h a) : HatB K H' h a := w.mono s
theorem hatB_id (w : HatB K H h a) : HatB K H h a := w
theorem HatB.ne (hat : HatB K H h a) (e : H p = none) : p ≠ h ∧ p ≠ h := by
  obtain ⟨xs, q⟩ := hat.lst
  have n : p ≠ h := fun z => by
    subst z
    rw [e] at q
    cases q
  exact ⟨n, n⟩
theorem hatB_ne (e : H p = none) (hat : HatB K H h a) : p ≠ h ∧ p ≠ h := hat.ne e
theorem atB_no {o : HO} (hat : HatB K H h a) (n : ∀ xs, o ≠ .lst xs) (e : H p = some o) : p ≠ h := fun z => by
  obtain ⟨xs, q⟩ := hat.lst
  subst z
  rw [e] at q
  exact n _ (Option.some.inj q)
theorem atB_tup {xs : List V} (s : SameD h h H H') (hat : HatB K H h a) (e : H p = some (.tup xs)) : H' p = some (.tup xs) := by
  have n := atB_no hat (fun _ z => by cases z) e
  exact s _ _ n n e
theorem atB_ins {C dx : Addr} {fs : List (Str × V)} (s : SameD h h H H') (hat : HatB K H h a) (e : H p = some (.ins C dx fs)) : H' p = some (.ins C dx fs) := by
  have n := atB_no hat (fun _ z => by cases z) e
  exact s _ _ n n e
theorem atB_lst {xs : List V} (s : SameD h h H H') (n : p ≠ h ∧ p ≠ h) (e : H p = some (.lst xs)) : H' p = some (.lst xs) := s _ _ n.1 n.2 e
theorem sqTB {xs : List V} (s : SameD h h H H') (hat : HatB K H h a) (e : SqT K H p xs) : SqT K H' p xs := by
  rcases e with (e | ⟨o, e⟩) | e
  · exact .inl (.inl (atB_tup s hat e))
  · have n := atB_no hat (fun _ z => by cases z) e
    exact .inl (.inr ⟨o, s _ _ n n e⟩)
  · exact .inr e
end
section
variable {K : PySem.W.Frag} {σ : L2.St} {H1 : Hp} {Q : VK} {te : TE}
theorem sqL_hid {D a : Addr} {H : Hp} {xs : List V} (n : H D = none) (q : SqL K H a xs) : SqL K (hid D H) a xs := by
  rcases q with (q | ⟨o, q⟩) | q
  · exact .inl (.inl (by rw [hid_ne (ne_of_none q n)]; exact q))
  · exact .inl (.inr ⟨o, by rw [hid_ne (ne_of_none q n)]; exact q⟩)
  · exact .inr q
theorem hid_hid {D h : Addr} {H H' : Hp} (s : SameD h h H H') : Same (hid D (hid h H)) (hid D (hid h H')) := fun b o e => by
  unfold hid at e
  split at e
  · cases e
  · rename_i n1
    split at e
    · cases e
    · rename_i n2
      rw [hid_ne n1, hid_ne n2]
      exact s b o n2 n2 e
/-- the script apart from D -/
def Scr (K : PySem.W.Frag) (H : Hp) (D h a : Addr) : Prop := ∃ ns : List Int, SqL K (hid D (hid h H)) a (ns.map V.int) ∧ ns.length ≤ 63
theorem Scr.of {H : Hp} {D h a : Addr} (hat : HatB K H h a) (n : H D = none) : Scr K H D h a := by
  obtain ⟨ns, p, m, r, e, q, l, _⟩ := hat
  refine ⟨ns, sqL_hid ?_ q, l⟩
  unfold hid
  split
  · rfl
  · exact n
theorem Scr.d {H H' : Hp} {D h a : Addr} (z : Scr K H D h a) (s : SameD h h H H') : Scr K H' D h a := let ⟨ns, q, l⟩ := z; ⟨ns, same_sqL (hid_hid s) q, l⟩
theorem HatB.put {H : Hp} {D h a : Addr} {o : HO} (hat : HatB K H h a) (z : Scr K H D h a) (n : D ≠ h) : HatB K (upd H D o) h a ∧ Scr K (upd H D o) D h a := by
  obtain ⟨ms, p, m, r, e, _, _, w⟩ := hat
  obtain ⟨ns, q, l⟩ := z
  have s : Same (hid D (hid h H)) (hid D (hid h (upd H D o))) := fun b u e => by
    unfold hid at e
    split at e
    · cases e
    · rename_i n1
      split at e
      · cases e
      · rename_i n2
        rw [hid_ne n1, hid_ne n2, upd_ne n1]
        exact e
  have q2 := same_sqL s q
  exact ⟨⟨ns, p, m, r, by rw [upd_ne n.symm]; exact e, same_sqL hid_same q2, l, w⟩, ns, q2, l⟩
/-- a drawing comprehension: ints that keep a word -/
theorem lcB_ints {h a : Addr} {lo : Int} {n j : Nat} (P : Int → Prop) (hat : HatB K H1 h a) (hn : n ≤ 1000)
    (hs : ∀ (i : Nat) H' (Z : VK), i < n → HatB K H' h a → SameD h h H1 H' → (∀ y H4, HatB K H4 h a → SameD h h H' H4 → P y → Z (.int y) H4) → SetR j (.int (lo + i)) (fun s => te s H' Z) σ)
    (hd : ∀ D H' (ns : List Int), HatB K H' h a → SameD h h H1 H' → H1 D = none → H' D = some (.lst (ns.map V.int)) → ns.length = n → (∀ x ∈ ns, P x) → Q (.ref D) H') : LcR (Itr lo n) (gName j) tYes te [j] σ Q H1 := fun D hD => by
  have nD := hat.ne hD
  refine lc_range (fun i H' => (HatB K H' h a ∧ Scr K H' D h a) ∧ SameD h h H1 H' ∧ ∃ xs : List Int, H' D = some (.lst (xs.map V.int)) ∧ xs.length = i ∧ ∀ x ∈ xs, P x) ⟨hat.put (Scr.of hat hD) nD.1, (sameD_of sameR).mut hD, [], upd_same, rfl, fun x hx => by cases hx⟩ ?_ ?_
  · rintro i H' hi ⟨⟨hH', sc⟩, sd, xs, hDx, xl, xb⟩
    refine ⟨wipe1' _, tYes_of ?_⟩
    rw [wipe1]
    refine hs i H' _ hi hH' sd fun y H4 h4 s4 py => ?_
    have hD4 := s4 _ _ nD.1 nD.1 hDx
    refine ⟨_, hD4, Nat.lt_of_lt_of_le (show _ < 1001 by rw [List.length_map]; omega) (by decide), h4.put (sc.d s4) nD.1, (sd.tr s4).mut hD, xs ++ [y], by rw [upd_same]; simp, by simp [xl], fun x hx => ?_⟩
    rcases List.mem_append.mp hx with hx | hx
    · exact xb x hx
    · rw [List.mem_singleton.mp hx]
      exact py
  · rintro H' ⟨⟨hH', sc⟩, sd, xs, hDx, xl, xb⟩
    exact hd D H' xs hH' sd hD hDx xl xb
end
/-! ### an instance that is called -/
structure Cop (P : Program) (w : World) (K : PySem.W.Frag) (mg : Str → Option Value) (base : Heap) (k : Nat) (C : Addr) (sp : Sp) : Prop where
  ex : ∃ g : Addr, StX.CallO K C g ∧ FnR P w K mg base CX0 k g sp
section
variable {P : Program} {w : World} {K : PySem.W.Frag} {mg : Str → Option Value} {base : Heap}
theorem cop_of {d : DefA} {C : Str} {N ps : List Str} {k : Nat} {sp : Sp} (F : ∃ fd, d.Fn K fd) (hp : d.path = pM C "__call__") (hd : d.dfl = []) (hm : Meth K (He.ga K C) "__call__" (He.ma K (He.ga K C) "__call__")) (hf : PySem.W.fnIn K (He.ma K (He.ga K C) "__call__") = true) (S : FnScope N ps d.scope)
    (b : BindA d.name d.qual d.params d.body d.scope ps) (len : ∀ vs H Q E, sp vs H Q E → vs.length = ps.length) (hb : Body0 P w K mg base N d.qual d.body d.scope (He.ma K (He.ga K C) "__call__") k sp) : Cop P w K mg base (k + 1) (He.ga K C) sp := by
  obtain ⟨fd, F⟩ := F
  have F' : FunD K d.name d.qual d.params d.body d.scope [] (d.kws K) (He.ma K (He.ga K C) "__call__") fd := by
    have q : FunD K d.name d.qual d.params d.body d.scope (d.dvs K) (d.kws K) (d.path K) fd := F
    unfold DefA.dvs at q
    rw [hd, hp] at q
    exact q
  have Fk := fn0_of (P := P) (w := w) (mg := mg) (base := base) F' S len hb
  obtain ⟨oc, od, kV, doc, pm, an, cdv, ct, osl, rfl, lk, hcd⟩ := fun_of F'
  refine ⟨_, ⟨hm.at_, hm.fn, hf⟩, ?_⟩
  have z := Fk.raw (Binds.all (b kV doc pm an cdv ct)) .nil
  exact z.imp fun vs H Q E q => by
    rw [List.append_nil]
    exact q
end
def InsD (H : Hp) (a C : Addr) : Prop := (∃ dx vs, SlX.Slt H a C dx vs) ∨ ∃ dx fs, H a = some (.ins C dx fs)
def tCo (C : Addr) (sp : Sp) (E : XK) (tf : TE) (t : TA) : TE := fun σ H Q => tf σ H fun y H1 => ∃ a, y = V.ref a ∧ t σ H1 fun vs H2 => InsD H2 a C ∧ sp (V.ref a :: vs) H2 Q E
section
variable {X : Cx} {k j : Nat} {C : Addr} {sp : Sp} {fe e : Expr} {es : List Expr} {pos : Pos} {tf : TE} {t : TA}
theorem pe_co (c : Cop X.prog X.w X.K X.mg X.base k C sp) (hr : Room j X.A) (hk : k ≤ j) (hf : PE X fe tf) (ha : PA X (e :: es) t)
    (ht : eval (.Call fe (e :: es) [] pos) X.env = (do callWith pos (← eval fe X.env) [] (backTo pos (starEach (e :: es) X.env)) (backToKw pos (keywordEach [] X.env))) := by rfl)
    (he : starEach (e :: es) X.env = (false, eval e X.env) :: starEach es X.env := by rfl) (hpl : (backTo pos (starEach es X.env)).any (·.1) = false := by rfl) : PE X (.Call fe (e :: es) [] pos) (tCo C sp E0 tf t) := by
  obtain ⟨g, c1, F⟩ := c.ex
  exact StX.pe_callO hf c1 F (hr.mono hk) pass0 ha ht he hpl
end
section
variable {σ : L2.St} {H : Hp} {Q : VK} {C : Addr} {sp : Sp} {E : XK} {tf : TE} {t : TA}
def CoR (C : Addr) (sp : Sp) (E : XK) (t : TA) (σ : L2.St) (Q : VK) (y : V) (H1 : Hp) : Prop := ∃ a, y = V.ref a ∧ t σ H1 fun vs H2 => InsD H2 a C ∧ sp (V.ref a :: vs) H2 Q E
theorem r_co (q : tf σ H (CoR C sp E t σ Q)) : tCo C sp E tf t σ H Q := q
theorem r_coR {a : Addr} (q : t σ H fun vs H2 => InsD H2 a C ∧ sp (V.ref a :: vs) H2 Q E) : CoR C sp E t σ Q (.ref a) H := ⟨a, rfl, q⟩
theorem r_coI {a dx : Addr} {fs : List (Str × V)} {A : Prop} (h : H a = some (.ins C dx fs)) (q : A) : InsD H a C ∧ A := ⟨.inr ⟨dx, fs, h⟩, q⟩
end
/-! ### list(range(..)) -/
section
variable {σ : L2.St} {H : Hp} {Q : VK} {ta tb : TE}
def Rg2R (Q : Int → Int → Hp → Prop) (x y : V) (H : Hp) : Prop := ∃ i j, x = .int i ∧ y = .int j ∧ Q i j H
def LRgR (Q : VK) (a b : Int) (H : Hp) : Prop := RgOk a b ∧ ∀ q, H q = none → Q (.ref q) (upd H q (.lst (rgV a b)))
theorem r_lRg {te : L2.St → Hp → (Int → Int → Hp → Prop) → Prop} (q : te σ H (LRgR Q)) : tLstRg te σ H Q := q
theorem r_rg2 {Q : Int → Int → Hp → Prop} (q : ta σ H fun x H1 => tb σ H1 fun y H2 => Rg2R Q x y H2) : tRg2 ta tb σ H Q := q
theorem r_rg2R {Q : Int → Int → Hp → Prop} {i j : Int} (q : Q i j H) : Rg2R Q (.int i) (.int j) H := ⟨i, j, rfl, rfl, q⟩
theorem rgV_ints (a b : Int) : rgV a b = ((List.range (b - a).toNat).map fun i : Nat => a + (i : Int)).map V.int := by
  unfold rgV
  simp
theorem a_lRg {a b : Int} (ok : RgOk a b) (q : ∀ p H', Same H H' → H p = none → H' p = some (.lst (((List.range (b - a).toNat).map fun i : Nat => a + (i : Int)).map V.int)) → Q (.ref p) H') : LRgR Q a b H := ⟨ok, fun p hp => by
  rw [rgV_ints]
  exact q p _ (same_new hp) hp upd_same⟩
end
/-- an if whose ways meet in J -/
theorem r_ifJ {c : TT} {t u : TS} {D : Ends} {σ : L2.St} {H : Hp} (J : L2.St → Hp → Prop) (hn : ∀ σ H, J σ H → D.nx σ H) (h1 : (∀ σ H, J σ H → D.nx σ H) → tIfS c t u D σ H) : tIfS c t u D σ H := h1 hn
theorem r_stopF {w : TI} {g : TG} {tb : TS} {D : Ends} {σ : L2.St} {H : Hp} (q : tFor w g tb D σ H) : tFor w g tb D σ H := q
end G57
end
section
set_option maxRecDepth 100000
set_option maxHeartbeats 4000000
/-! XLam: lambdas as values: their making, their promises, defs that are told what a closure does. -/
namespace G57
open PySem PySem.Spec PyProof.Rows L2 LamX NdefX
/-! ### a lambda's text, a made closure -/
structure LamD where
  params : Arguments
  body : Expr
  scope : Scope
  pos : Pos
structure LF where
  d : LamD
  qual : Str
  cl : List (Str × Addr)
  c : Addr
  dV : Value
def LF.nf (F : LF) : NF := ⟨"<lambda>", F.qual, F.d.params, [], F.d.scope, F.cl, F.c⟩
abbrev LF.fd (F : LF) (doc pm ctv : Value) : FuncData := PySem.W.kdv_fn "<lambda>" F.qual F.d.params (.expr F.d.body) F.d.scope F.cl F.dV doc pm (.ref F.c) ctv
abbrev LF.obj (F : LF) (doc pm ctv : Value) : Obj := { cls := .type "function", data := .func (F.fd doc pm ctv) }
/-- an object that never changes -/
def Frz (H : Hp) (a : Addr) (o : Obj) : Prop := ∃ u, H a = some (.frz o u)
def CodeF (H : Hp) (c : Addr) (q : Str) : Prop := ∃ oc vs t, Frz H c oc ∧ oc.data = .fields vs ∧ vs[1]? = some (.str q t)
def FnF (H : Hp) (f : Addr) (F : LF) : Prop := ∃ doc pm ctv, Frz H f (F.obj doc pm ctv)
structure Lam (H : Hp) (f : Addr) (F : LF) (ds : List V) : Prop where
  fn : FnF H f F
  code : CodeF H F.c F.qual
  dfl : (F.dV = .none ∧ ds = []) ∨ (ds ≠ [] ∧ ∃ t, F.dV = .ref t ∧ H t = some (.tup ds))
/-- what never changes has not -/
def Still (H H' : Hp) : Prop := (∀ b o u, H b = some (.frz o u) → H' b = some (.frz o u)) ∧ ∀ b xs, H b = some (.tup xs) → H' b = some (.tup xs)
section
variable {H H' : Hp} {f c h a : Addr} {F : LF} {ds : List V} {q : Str} {K : PySem.W.Frag}
theorem Still.of (s : Same H H') : Still H H' := ⟨fun b o u e => s _ _ e, fun b xs e => s _ _ e⟩
theorem Still.n (s : ExtN H H') : Still H H' := ⟨fun b o u e => s _ _ e fun ps z => (by cases z), fun b xs e => s _ _ e fun ps z => (by cases z)⟩
theorem Still.d (s : SameD h h H H') (hat : HatB K H h a) : Still H H' := by
  refine ⟨fun b o u e => ?_, fun b xs e => atB_tup s hat e⟩
  have n := atB_no hat (fun _ z => by cases z) e
  exact s _ _ n n e
theorem Still.dA {l : Addr} (s : SameD h l H H') (hat : Hat H h l) : Still H H' := by
  refine ⟨fun b o u e => ?_, fun b xs e => s.tup hat e⟩
  obtain ⟨m, c, ys, e1, e2, _⟩ := hat
  refine s b _ (fun z => ?_) (fun z => ?_) e
  · subst z
    rw [e] at e1
    cases e1
  · subst z
    rw [e] at e2
    cases e2
theorem Still.tr {H2 : Hp} (a : Still H H') (b : Still H' H2) : Still H H2 := ⟨fun x o u e => b.1 _ _ _ (a.1 _ _ _ e), fun x xs e => b.2 _ _ (a.2 _ _ e)⟩
theorem Frz.st {o : Obj} (z : Frz H a o) (s : Still H H') : Frz H' a o := let ⟨u, e⟩ := z; ⟨u, s.1 _ _ _ e⟩
theorem CodeF.st (z : CodeF H c q) (s : Still H H') : CodeF H' c q := let ⟨oc, vs, t, e, r⟩ := z; ⟨oc, vs, t, e.st s, r⟩
theorem FnF.st (z : FnF H f F) (s : Still H H') : FnF H' f F := let ⟨d, p, c, e⟩ := z; ⟨d, p, c, e.st s⟩
theorem Lam.st (z : Lam H f F ds) (s : Still H H') : Lam H' f F ds := ⟨z.fn.st s, z.code.st s, z.dfl.elim .inl fun ⟨n, t, e, k⟩ => .inr ⟨n, t, e, s.2 _ _ k⟩⟩
end
/-! ### tables -/
def TabF (H : Hp) (P : Addr) (q : Str) : Prop := ∃ ps : Array Value, H P = some (.tbl ps) ∧ TriplesOk ps.toList ∧ ∀ (pos : Pos) (cv : Value), codeAmong pos ps.toList = some cv → ∃ c, cv = .ref c ∧ CodeF H c q
def TabsF (T : List (Addr × Str)) (H : Hp) : Prop := ∀ p ∈ T, TabF H p.1 p.2
theorem TabF.mv {H H' : Hp} {P : Addr} {q : Str} (t : TabF H P q) (e : ∀ ps, H P = some (.tbl ps) → H' P = some (.tbl ps)) (s : Still H H') : TabF H' P q := by
  obtain ⟨ps, h1, h2, h3⟩ := t
  exact ⟨ps, e _ h1, h2, fun pos cv hc => let ⟨c, e1, e2⟩ := h3 pos cv hc; ⟨c, e1, e2.st s⟩⟩
theorem tabsF_s {T : List (Addr × Str)} {H H' : Hp} (s : Same H H') (t : TabsF T H) : TabsF T H' := fun p hp => (t p hp).mv (fun ps e => s _ _ e) (.of s)
theorem tabsF_d {T : List (Addr × Str)} {H H' : Hp} {K : PySem.W.Frag} {h a : Addr} (s : SameD h h H H') (hat : HatB K H h a) (t : TabsF T H) : TabsF T H' := fun p hp => (t p hp).mv (fun ps e => by
  have n := atB_no hat (fun _ z => by cases z) e
  exact s _ _ n n e) (.d s hat)
theorem tabsF_x {T : List (Addr × Str)} {H H' : Hp} {L : Addr} {zs : List V} (s : SameX L H H') (hl : H L = some (.lst zs)) (t : TabsF T H) : TabsF T H' := by
  have ne : ∀ {b : Addr} {o : HO}, H b = some o → (∀ xs, o ≠ .lst xs) → b ≠ L := fun {b o} e n z => by
    subst z
    rw [hl] at e
    exact n _ (Option.some.inj e).symm
  exact fun p hp => (t p hp).mv (fun ps e => s _ _ (ne e fun _ z => by cases z) e) ⟨fun b o u e => s _ _ (ne e fun _ z => by cases z) e, fun b xs e => s _ _ (ne e fun _ z => by cases z) e⟩
theorem tabsF_0 {T : List (Addr × Str)} {H : Hp} (h : ∀ p ∈ T, H p.1 = some (.tbl #[])) : TabsF T H := fun p hp => ⟨#[], h p hp, True.intro, fun pos cv hc => by
  have z : codeAmong pos [] = some cv := hc
  simp [codeAmong] at z⟩
/-! ### the making -/
def FO (a : Addr) (o : Obj) : HO := .ext fun h => h.get? a = some o
section
variable {X : Cx} {pins : List (Addr × Obj)} {σ : L2.St} {H : Hp} {s : Shared}
theorem fo_ok {P : Program} {w : World} {h : Heap} {a : Addr} {o : Obj} (e : h.get? a = some o) : ObjOk P w H h a (.frz o (FO a o)) := ⟨e, e, ⟨_, e⟩, fun h1 h2 z st => st _ z⟩
theorem inv_frz {o : Obj} {t' : Nat} (I : Inv X pins σ H s) (hf : o.isFreed = false := by rfl) : Inv X pins σ (upd H s.heap.objs.size (.frz o (FO s.heap.objs.size o))) { s with heap := s.heap.push o, toks := t' } :=
  I.laid (a := s.heap.objs.size) (fun b u e => Heap.get?_push_of_some _ e) (Nat.le_refl _) (fo_ok (Heap.get?_push_size _ hf))
theorem frz_at {P : Program} {w : World} {h : Heap} {a : Addr} {o : Obj} (hok : HOk P w H h) (e : Frz H a o) : h.get? a = some o := by
  obtain ⟨u, e⟩ := e
  exact (hok a _ e).1
theorem lamF_make {T : List (Addr × Str)} {c P : Addr} {d : LamD} {dV : Value} {E : Value → Shared → Prop} {Q : Value → Shared → Prop} (I : Inv X pins σ H s) (TB : TabB X.base X.mg c P) (hcode : X.env.code = .ref c)
    (hm : (P, X.env.qual ++ "<lambda>") ∈ T) (hu : ∀ p ∈ T, p.1 = P → p.2 = X.env.qual ++ "<lambda>") (hT : TabsF T H) (hfree : ∀ y ∈ d.scope.names, y.2 = .free → ∃ c, X.env.cells.lookup y.1 = some c)
    (h : ∀ (f c' : Addr) (H1 : Hp) (s' : Shared), Inv X pins σ H1 s' → ExtN H H1 → TabsF T H1 → H f = none → FnF H1 f ⟨d, X.env.qual ++ "<lambda>", cloFrom X.env.cells d.scope.names [], c', dV⟩ → CodeF H1 c' (X.env.qual ++ "<lambda>") → Q (.ref f) s') :
    wpAny (model X.prog X.w) X.A (makeTail "<lambda>" (X.env.qual ++ "<lambda>") d.params (.expr d.body) d.scope X.env dV .none none d.pos d.pos.line) Q E s := by
  obtain ⟨ps, hP, ht, ha⟩ := hT _ hm
  have bP : s.heap.BuiltinsAt X.mg P := TB.bm.keeps I.bk
  have hP' : s.heap.get? P = some { cls := .none, data := .fields ps } := I.hok P _ hP
  cases hc : codeAmong d.pos ps.toList with
  | none =>
    refine PySem.W.kdv_makeTail (mg := X.mg) (closure_ok hfree) I.ok.glob (I.mod.glob.keeps I.bk) hcode (TB.code.keeps I.bk) hP' ht hc TB.gP bP fun c' ctv doc h' tk hx hge hlt hrec htb => ?_
    obtain ⟨c2, oc, vs, t, e2, hoc, hd, hv⟩ := hrec
    cases e2
    have nC : H c' = none := I.hok.fresh hge
    have nPc : P ≠ c' := ne_of_none hP nC
    have J1 := inv_table (t' := tk) (more := #[rawInt d.pos.line, rawInt d.pos.col, .ref c']) (h' := h') I hP (fun b o hb e => hx b o hb e) htb hge ⟨oc, vs, t, hoc, hd, hv⟩
    generalize hA : upd (upd H P (.tbl (ps ++ #[rawInt d.pos.line, rawInt d.pos.col, .ref c']))) c' (CodeO c' (X.env.qual ++ "<lambda>")) = HA at J1
    have aC : HA c' = some (CodeO c' (X.env.qual ++ "<lambda>")) := by rw [← hA, upd_same]
    have J2 : Inv X pins σ (upd HA c' (.frz oc (FO c' oc))) { s with heap := h', toks := tk } := J1.write (x := c') (e := c') (t' := tk) (by rw [aC]; exact True.intro) (.inl rfl) (fun b u _ e => e) ⟨oc, hoc⟩ (fo_ok hoc)
    have J3 := inv_frz (o := LF.obj ⟨d, X.env.qual ++ "<lambda>", cloFrom X.env.cells d.scope.names [], c', dV⟩ doc ((X.mg "__name__").getD .none) ctv) (t' := tk) J2
    have nF : H h'.objs.size = none := I.hok.fresh (Nat.le_trans hge (Nat.le_of_lt hlt))
    have nFc : h'.objs.size ≠ c' := Nat.ne_of_gt hlt
    have nFP : h'.objs.size ≠ P := fun z => by
      rw [z, hP] at nF
      cases nF
    generalize hB : upd (upd HA c' (.frz oc (FO c' oc))) h'.objs.size (.frz (LF.obj ⟨d, X.env.qual ++ "<lambda>", cloFrom X.env.cells d.scope.names [], c', dV⟩ doc ((X.mg "__name__").getD .none) ctv) (FO h'.objs.size (LF.obj ⟨d, X.env.qual ++ "<lambda>", cloFrom X.env.cells d.scope.names [], c', dV⟩ doc ((X.mg "__name__").getD .none) ctv))) = HB at J3
    have bF : FnF HB h'.objs.size ⟨d, X.env.qual ++ "<lambda>", cloFrom X.env.cells d.scope.names [], c', dV⟩ := ⟨doc, _, ctv, _, by rw [← hB, upd_same]⟩
    have bC : CodeF HB c' (X.env.qual ++ "<lambda>") := ⟨oc, vs, t, ⟨FO c' oc, by rw [← hB, upd_ne nFc.symm, upd_same]⟩, hd, hv⟩
    have bP2 : HB P = some (.tbl (ps ++ #[rawInt d.pos.line, rawInt d.pos.col, .ref c'])) := by
      rw [← hB, upd_ne nFP.symm, upd_ne nPc, ← hA, upd_ne nPc, upd_same]
    have bO : ∀ b o, H b = some o → b ≠ P → HB b = some o := fun b o e n => by
      rw [← hB, upd_ne (ne_of_none e nF), upd_ne (ne_of_none e nC), ← hA, upd_ne (ne_of_none e nC), upd_ne n]
      exact e
    have bE : ExtN H HB := fun b o e n => bO b o e fun z => by
      rw [z, hP] at e
      exact n _ (Option.some.inj e).symm
    refine h _ c' HB _ J3 bE (fun p hp => ?_) nF bF bC
    by_cases hb : p.1 = P
    · rw [hu p hp hb, hb]
      refine ⟨_, bP2, by rw [show (ps ++ #[rawInt d.pos.line, rawInt d.pos.col, .ref c']).toList = ps.toList ++ [rawInt d.pos.line, rawInt d.pos.col, .ref c'] by simp]; exact PySem.TriplesOk_snoc _ _ _ _ ht, fun p' cv hcv => ?_⟩
      rw [show (ps ++ #[rawInt d.pos.line, rawInt d.pos.col, .ref c']).toList = ps.toList ++ [rawInt d.pos.line, rawInt d.pos.col, .ref c'] by simp] at hcv
      rcases among_app _ ht hcv with z | z
      · obtain ⟨c0, e1, e2⟩ := ha p' cv z
        exact ⟨c0, e1, e2.st (.n bE)⟩
      · exact ⟨c', z, bC⟩
    · exact (hT p hp).mv (fun qs e => bO _ _ e hb) (.n bE)
  | some cv =>
    obtain ⟨c', e, hco⟩ := ha d.pos cv hc
    subst e
    refine PySem.W.kdv_makeTailHit (mg := X.mg) (closure_ok hfree) I.ok.glob (I.mod.glob.keeps I.bk) hcode (TB.code.keeps I.bk) hP' ht hc bP fun ctv doc h' tk hx hsz => ?_
    have J1 : Inv X pins σ H { s with heap := h', toks := tk } := I.kept hx
    have J3 := inv_frz (o := LF.obj ⟨d, X.env.qual ++ "<lambda>", cloFrom X.env.cells d.scope.names [], c', dV⟩ doc ((X.mg "__name__").getD .none) ctv) (t' := tk) J1
    have nF : H h'.objs.size = none := J1.hok.fresh (Nat.le_refl _)
    have bS := same_new (o := .frz (LF.obj ⟨d, X.env.qual ++ "<lambda>", cloFrom X.env.cells d.scope.names [], c', dV⟩ doc ((X.mg "__name__").getD .none) ctv) (FO h'.objs.size (LF.obj ⟨d, X.env.qual ++ "<lambda>", cloFrom X.env.cells d.scope.names [], c', dV⟩ doc ((X.mg "__name__").getD .none) ctv))) nF
    exact h _ c' _ _ J3 (ExtN.of bS) (tabsF_s bS hT) nF ⟨doc, _, ctv, _, upd_same⟩ (hco.st (.of bS))
end
end G57
end
section
set_option maxRecDepth 100000
set_option maxHeartbeats 4000000
/-! XLam2: lambdas: the expression, the body's promise, what a caller knows, defs told of a closure. -/
namespace G57
open PySem PySem.Spec PyProof.Rows L2 LamX NdefX
/-! ### the expression -/
/-- captured: the cells that the maker's frame has -/
def ofC (cells : List (Str × Addr)) (F : LF) : Prop := F.cl = cloFrom cells F.d.scope.names []
def tLm (T : List (Addr × Str)) (cells : List (Str × Addr)) (d : LamD) (ds : List V) : TE := fun σ H Q => TabsF T H ∧ ∀ (f : Addr) (F : LF) (H1 : Hp), ExtN H H1 → TabsF T H1 → H f = none → Lam H1 f F ds → F.d = d → ofC cells F → Q (.ref f) H1
section
variable {X : Cx}
theorem pe_lm {T : List (Addr × Str)} {c P : Addr} {d : LamD} (TB : TabB X.base X.mg c P) (hcode : X.env.code = .ref c) (hm : (P, X.env.qual ++ "<lambda>") ∈ T) (hu : ∀ p ∈ T, p.1 = P → p.2 = X.env.qual ++ "<lambda>") (L : ∀ y ∈ d.scope.names, y.2 = .free → X.env.scope.names.lookup y.1 = some .cell ∨ X.env.scope.names.lookup y.1 = some .free)
    (hd : d.params.defaults = []) (hk : d.params.kw_defaults = []) : PE X (.Lambda d.params d.body d.scope d.pos) (tLm T X.env.cells d []) := by
  refine ⟨fun pins s σ H Q I h => ?_⟩
  obtain ⟨hT, h⟩ := h
  refine PySem.W.kla_eval (by rw [defaultsOf_eq, hd, hk] <;> rfl) ?_
  rw [makeFunction_eq]
  simp only [List.zip_nil_right, List.filterMap_nil, List.isEmpty_nil, if_true, pure_bind]
  refine lamF_make I TB hcode hm hu hT (fun y hy e => (L y hy e).elim (fun z => I.ok.has _ (.inl z)) fun z => I.ok.has _ (.inr z)) fun f c' H1 s' I1 eN T1 hf hF hc => ?_
  exact ⟨.ref f, H1, I1, rfl, h f _ H1 eN T1 hf ⟨hF, hc, .inl ⟨rfl, rfl⟩⟩ rfl rfl⟩
/-- with one default -/
theorem pe_lm1 {T : List (Addr × Str)} {c P : Addr} {d : LamD} {i : Int} {e : Expr} (TB : TabB X.base X.mg c P) (hcode : X.env.code = .ref c) (hm : (P, X.env.qual ++ "<lambda>") ∈ T) (hu : ∀ p ∈ T, p.1 = P → p.2 = X.env.qual ++ "<lambda>") (L : ∀ y ∈ d.scope.names, y.2 = .free → X.env.scope.names.lookup y.1 = some .cell ∨ X.env.scope.names.lookup y.1 = some .free)
    (hd : d.params.defaults = [e]) (he : PE X e (tC (.int i))) (hk : d.params.kw_defaults = []) : PE X (.Lambda d.params d.body d.scope d.pos) (tLm T X.env.cells d [.int i]) := by
  refine ⟨fun pins s σ H Q I h => ?_⟩
  obtain ⟨hT, h⟩ := h
  refine PySem.W.kdv_lam (by rw [hd] <;> rfl) hk ?_
  rw [hd]
  refine PySem.W.kdv_all1 (thn (he.run pins s σ H (fun v H1 => v = .int i ∧ H1 = H) I ⟨rfl, rfl⟩) fun u s1 ⟨v, H1, I1, r1, q1⟩ => ?_)
  obtain ⟨rfl, rfl⟩ := q1
  refine PySem.W.kdv_all0 ?_
  obtain ⟨t0, rfl⟩ : ∃ t, u = Value.int i t := r1
  rw [makeFunction_eq]
  simp only [List.zip_nil_right, List.filterMap_nil, List.isEmpty_nil, if_true, pure_bind, List.isEmpty_cons, Bool.false_eq_true, if_false]
  refine wpAny_bind (wpAny_newTextTuple ?_)
  have nT : H1 s1.heap.objs.size = none := I1.hok.fresh (Nat.le_refl _)
  have I2 : Inv X pins σ (upd H1 s1.heap.objs.size (.tup [.int i])) { s1 with heap := s1.heap.push { cls := .type "tuple", data := .seq #[Value.int i t0] } } := I1.laid (t' := s1.toks) (fun b u e => Heap.get?_push_of_some _ e) (Nat.le_refl _) ⟨by show 1 ≤ sizeLine; decide, [.int i t0], .cons ⟨t0, rfl⟩ .nil, _, Heap.get?_push_size _ rfl, rfl, ⟨_, rfl⟩⟩
  have sS := same_new (o := .tup [V.int i]) nT
  refine lamF_make I2 TB hcode hm hu (tabsF_s sS hT) (fun y hy e => (L y hy e).elim (fun z => I.ok.has _ (.inl z)) fun z => I.ok.has _ (.inr z)) fun f c' H2 s' I3 eN T1 hf hF hc => ?_
  exact ⟨.ref f, H2, I3, rfl, h f _ H2 ((ExtN.of sS).trans eN) T1 (none_of_same sS hf) ⟨hF, hc, .inr ⟨by simp, _, rfl, (Still.n eN).2 _ _ upd_same⟩⟩ rfl rfl⟩
end
/-! ### what is known of a frame's cells -/
structure CellsK (cells : List (Str × Addr)) (N : List Str) (sc : Scope) (σ : L2.St) (s : Shared) (H : Hp) : Prop where
  all : ∀ y c, cells.lookup y = some c → H c = none ∧ ∃ v, s.heap.IsCell c v
  inj : ∀ x y c, cells.lookup x = some c → cells.lookup y = some c → x = y
  has : ∀ y, (sc.names.lookup y = some .cell ∨ sc.names.lookup y = some .free) → ∃ c, cells.lookup y = some c
  val : ∀ (j : Nat) (y : Str) (v : V), N[j]? = some y → σ[j]? = some (some v) → (sc.names.lookup y = some .cell ∨ sc.names.lookup y = some .free) → ∃ c u, cells.lookup y = some c ∧ L2.RelV v u ∧ s.heap.IsCell c (some u)
theorem inv_cellsK {X : Cx} {pins : List (Addr × Obj)} {σ : L2.St} {H : Hp} {s : Shared} (I : Inv X pins σ H s) : CellsK X.env.cells X.N X.env.scope σ s H := by
  refine ⟨fun y c e => ⟨I.freeC y c e, I.cell y c e⟩, I.ok.inj, fun y e => I.ok.has y e, fun j y v e1 e2 k => ?_⟩
  obtain ⟨m, hn, hl⟩ := I.loc
  obtain ⟨u, r, l⟩ := hl j y v e1 e2 (.inr k)
  rcases l with ⟨z, _⟩ | ⟨_, c, hc, hv⟩
  · have z' : X.env.scope.names.lookup y = some .local := z
    rcases k with k | k <;> rw [k] at z' <;> cases z'
  · exact ⟨c, u, hc, r, hv⟩
/-- the state s' is one behind s: what was not tracked stands -/
structure Kp (s : Shared) (H : Hp) (s' : Shared) (H' : Hp) : Prop where
  still : Still H H'
  cell : ∀ b v, s.heap.IsCell b v → H b = none → s'.heap.IsCell b v ∧ H' b = none
theorem Kp.refl {s : Shared} {H : Hp} : Kp s H s H := ⟨⟨fun _ _ _ e => e, fun _ _ e => e⟩, fun b v e n => ⟨e, n⟩⟩
theorem Kp.tr {s s1 s2 : Shared} {H H1 H2 : Hp} (a : Kp s H s1 H1) (b : Kp s1 H1 s2 H2) : Kp s H s2 H2 := ⟨a.still.tr b.still, fun x v e n => let ⟨e1, n1⟩ := a.cell x v e n; b.cell x v e1 n1⟩
theorem Kp.un {fs ex : List Addr} {s s' : Shared} {H H' : Hp} (u : Un fs ex H H' s.heap s'.heap) (hx : ∀ b v, s.heap.IsCell b v → H b = none → b ∉ ex) : Kp s H s' H' := ⟨⟨u.frzs, u.tups⟩, fun b v ⟨o, ho, hd⟩ n => by
  have nx := hx b v ⟨o, ho, hd⟩ n
  obtain ⟨sl, e⟩ := u.any ho n nx
  exact ⟨⟨_, e, hd⟩, u.free b o ho n nx⟩⟩
theorem CellsK.kp {cells : List (Str × Addr)} {N : List Str} {sc : Scope} {σ : L2.St} {s s' : Shared} {H H' : Hp} (k : CellsK cells N sc σ s H) (p : Kp s H s' H') : CellsK cells N sc σ s' H' :=
  ⟨fun y c e => by
    obtain ⟨n, v, z⟩ := k.all y c e
    obtain ⟨z1, n1⟩ := p.cell c v z n
    exact ⟨n1, v, z1⟩, k.inj, k.has, fun j y v e1 e2 e3 => by
    obtain ⟨c, u, hc, r, hv⟩ := k.val j y v e1 e2 e3
    exact ⟨c, u, hc, r, (p.cell c _ hv (k.all y c hc).1).1⟩⟩
theorem cellsAt_kp {cl : List (Str × Addr)} {fr : List Str} {ws : List (Option V)} {s s' : Shared} {H H' : Hp} (C : CellsAt cl fr ws s.heap H) (p : Kp s H s' H') : CellsAt cl fr ws s'.heap H' :=
  ⟨C.len, fun y c e => by
    obtain ⟨n, v, z⟩ := C.all y c e
    obtain ⟨z1, n1⟩ := p.cell c v z n
    exact ⟨n1, v, z1⟩, C.inj, fun i y e => by
    obtain ⟨c, hc, hv⟩ := C.has i y e
    refine ⟨c, hc, fun v ev => ?_⟩
    obtain ⟨u, r, z⟩ := hv v ev
    exact ⟨u, r, (p.cell c _ z (C.all y c hc).1).1⟩⟩
/-- a look at the texts: the lambda's captured names stand in the maker's frame at the places js -/
def capB (N : List Str) (sc lsc : Scope) (fr : List Str) (js : List Nat) : Bool :=
  (lsc.names.all fun y => !decide (y.2 = .free) || decide (sc.names.lookup y.1 = some .cell) || decide (sc.names.lookup y.1 = some .free)) && (fr.all fun y => decide ((y, NameKind.free) ∈ lsc.names)) && decide (js.map (fun j => N[j]?) = fr.map some)
theorem CellsK.at {cells : List (Str × Addr)} {N : List Str} {sc : Scope} {σ : L2.St} {s : Shared} {H : Hp} {F : LF} {fr : List Str} {js : List Nat} (k : CellsK cells N sc σ s H) (o : ofC cells F) (b : capB N sc F.d.scope fr js = true) : CellsAt F.cl fr (js.map (slotAt σ)) s.heap H := by
  unfold capB at b
  simp only [Bool.and_eq_true, Bool.or_eq_true, Bool.not_eq_true', decide_eq_true_eq, decide_eq_false_iff_not, List.all_eq_true] at b
  obtain ⟨⟨b1, b2⟩, b3⟩ := b
  have hf : ∀ y ∈ F.d.scope.names, y.2 = .free → ∃ c, cells.lookup y.1 = some c := fun y hy e => by
    rcases b1 y hy with (z | z) | z
    · exact absurd e z
    · exact k.has _ (.inl z)
    · exact k.has _ (.inr z)
  have ll : js.length = fr.length := by
    have q := congrArg List.length b3
    simpa using q
  have o' : F.cl = cloFrom cells F.d.scope.names [] := o
  rw [o']
  refine ⟨by rw [List.length_map]; exact ll, fun y c e => k.all y c (clo_cm hf e), fun x y c e1 e2 => k.inj x y c (clo_cm hf e1) (clo_cm hf e2), fun i y e => ?_⟩
  have hy := b2 y (List.mem_of_getElem? e)
  obtain ⟨c, hc⟩ := hf _ hy rfl
  refine ⟨c, clo_has hf hy hc, fun v ev => ?_⟩
  have lt : i < fr.length := (List.getElem?_eq_some_iff.mp e).1
  obtain ⟨j, hj⟩ : ∃ j, js[i]? = some j := ⟨_, List.getElem?_eq_getElem (by omega)⟩
  have e2 : (js.map fun j => N[j]?)[i]? = some (some y) := by
    rw [b3, List.getElem?_map, e]
    rfl
  rw [List.getElem?_map, hj] at e2
  have hN : N[j]? = some y := Option.some.inj e2
  rw [List.getElem?_map, hj] at ev
  have ev2 : σ[j]? = some (some v) := slotAt_some (Option.some.inj ev)
  have kind : sc.names.lookup y = some .cell ∨ sc.names.lookup y = some .free := by
    rcases b1 _ hy with (z | z) | z
    · exact absurd rfl z
    · exact .inl z
    · exact .inr z
  obtain ⟨c2, u, hc2, r, hv⟩ := k.val j y v hN ev2 kind
  have hc' : cells.lookup y = some c := hc
  rw [hc'] at hc2
  cases hc2
  exact ⟨u, r, hv⟩
/-! ### a lambda's promise by its body -/
/-- ps: its parameters (ds: the defaults of the last ones); fr: the captured names -/
structure LOk (P : Program) (w : World) (K : PySem.W.Frag) (mg : Str → Option Value) (base : Heap) (k : Nat) (d : LamD) (ps fr : List Str) (ds : List V) (sp : List (Option V) → Sp) : Prop where
  run : ∀ (F : LF) (f : Addr) (A : Around) (outer : List Env) (s : Shared) (H : Hp) (us : List Value) (vs : List V) (ws : List (Option V)) (Q : VK) (E : XK), F.d = d → Room k A → Env0 P w K mg base A outer s H → Lam H f F ds → CellsAt F.cl fr ws s.heap H → Vals vs us → sp ws vs H Q E →
    codeAny (model P w) A (.call (.ref f) ⟨us, []⟩) (CR (L2.CX P w) outer P w H s Q E) s
section
variable {P : Program} {w : World} {K : PySem.W.Frag} {mg : Str → Option Value} {base : Heap}
/-- how its arguments come to the parameters -/
def LBind (d : LamD) (ps : List Str) (ds : List V) : Prop := ∀ (F : LF) (doc pm ctv : Value) (s : Shared) (us dvs : List Value), F.d = d → (us ++ dvs).length = ps.length → Vals ds dvs → ((F.dV = .none ∧ dvs = []) ∨ (dvs ≠ [] ∧ ∃ t o n, F.dV = .ref t ∧ s.heap.get? t = some o ∧ o.data = .seq dvs.toArray n)) → BindsTo s (F.fd doc pm ctv) ⟨us, []⟩ (ps.zip (us ++ dvs))
theorem lok_of {d : LamD} {N ps fr : List Str} {ds : List V} {k : Nat} {sp : List (Option V) → Sp} (S : NScope N ps fr d.scope) (hb : LBind d ps ds) (len : ∀ ws vs H Q E, sp ws vs H Q E → (vs ++ ds).length = ps.length)
    (hbody : ∀ (F : LF) (f : Addr) (A : Around) (outer : List Env) (s : Shared) (H : Hp) (vs : List V) (ws : List (Option V)) (Q : VK) (E : XK), F.d = d → Room k (A.deeper (envF F.nf f s.heap.objs.size)) → ws.length = fr.length → sp ws vs H Q E →
      ∃ t, PE (ncx (L2.CX P w) P w K mg base N F.nf f A outer s H E) d.body t ∧ t (startF N (vs ++ ds) ws) H Q) : LOk P w K mg base (k + 1) d ps fr ds sp := by
  refine ⟨fun F f A outer s H us vs ws Q E hd hr e0 hF C r hsp => ?_⟩
  have hl := len _ _ _ _ _ hsp
  have lim : s.heap.NoLimit := e0.mod.nolimit.keeps fun b o e => (e0.bs b o e).1
  obtain ⟨⟨doc, pm, ctv, ff⟩, ⟨oc, cvs, ct, fc, cd, cq⟩, df⟩ := hF
  have ho := frz_at e0.hok ff
  have hcode : s.heap.CodeRec (.ref F.c) F.qual := ⟨F.c, oc, cvs, ct, rfl, frz_at e0.hok fc, cd, cq⟩
  obtain ⟨dvs, rd, hdv⟩ : ∃ dvs, Vals ds dvs ∧ ((F.dV = .none ∧ dvs = []) ∨ (dvs ≠ [] ∧ ∃ t o n, F.dV = .ref t ∧ s.heap.get? t = some o ∧ o.data = .seq dvs.toArray n)) := by
    rcases df with ⟨e1, e2⟩ | ⟨nd, t, e1, e2⟩
    · rw [e2]
      exact ⟨[], .nil, .inl ⟨e1, rfl⟩⟩
    · obtain ⟨_, its, rv, o, h1, h2, n, h3⟩ := e0.hok t _ e2
      exact ⟨its, rv, .inr ⟨fun z => nd (by subst z; cases rv; rfl), t, o, n, e1, h1, h3⟩⟩
  have r2 : Vals (vs ++ ds) (us ++ dvs) := r.append rd
  have hsc : F.d.scope = d.scope := by rw [hd]
  have S' : NScope N ps fr F.nf.scope := by
    show NScope N ps fr F.d.scope
    rw [hsc]
    exact S
  refine PySem.W.kla_callFunE (body := F.d.body) (fd := F.fd doc pm ctv) hr.depth ho rfl (by show F.d.scope.isCoroutine = false; rw [hsc]; exact S.co) (by show F.d.scope.isGenerator = false; rw [hsc]; exact S.gen) rfl hcode ?_
  refine hb F doc pm ctv s us dvs hd (by rw [← r2.length]; exact hl) rd hdv _ _ _ _ ?_
  refine wpAny_newFunctionEnv (fun y hy => S'.nocell y hy) (fun ⟨n, _⟩ hy => S'.par n (List.of_mem_zip hy).1) (fun h₁ hns hsb => ⟨lim.fresh _ hsb, ?_⟩) S'.kind
  show codeAny _ _ (.expr F.d.body (envF F.nf f s.heap.objs.size)) _ _
  have kp : ∀ b o, s.heap.get? b = some o → h₁.get? b = some o := fun b o e => hsb.extBut b o (Nat.ne_of_lt (Heap.lt_size e)) (Heap.get?_push_of_some _ e)
  obtain ⟨t, ht, hq⟩ := hbody F f A outer s H vs ws Q E hd (hr.deeper _) C.len hsp
  rw [hd]
  have I : Inv (ncx (L2.CX P w) P w K mg base N F.nf f A outer s H E) [] (startF N (vs ++ ds) ws) H { s with heap := h₁, toks := s.toks + (ps.zip (us ++ dvs)).length } := inv_startN S' hr.hd e0 hl r2 C hns kp
  refine PySem.W.kla_codeExpr (wpAny_mono (ht.run [] _ _ H Q I hq) (fun v s' hq => ?_) fun e s' hq => hq)
  obtain ⟨w', H', J', rv, q⟩ := hq
  exact ⟨w', H', J'.os, J'.bare, J'.base, J'.hok, rv, q⟩
theorem LOk.mono {d : LamD} {ps fr : List Str} {ds : List V} {j k : Nat} {sp : List (Option V) → Sp} (o : LOk P w K mg base j d ps fr ds sp) (h : j ≤ k) : LOk P w K mg base k d ps fr ds sp := ⟨fun F f A outer s H us vs ws Q E e hr => o.run F f A outer s H us vs ws Q E e (hr.mono h)⟩
theorem lbind0 {d : LamD} {ps : List Str} (h : ∀ (F : LF) (doc pm ctv : Value) (us : List Value), F.d = d → F.dV = .none → us.length = ps.length → bindArgs (F.fd doc pm ctv) ⟨us, []⟩ = pure (ps.zip us)) : LBind d ps [] := fun F doc pm ctv s us dvs hd hl rd hv => by
  cases rd
  rw [List.append_nil] at hl ⊢
  rcases hv with ⟨e, _⟩ | ⟨z, _⟩
  · exact .of_eq (h F doc pm ctv us hd e hl)
  · exact absurd rfl z
theorem lbind1 {d : LamD} {p : Str} {x : V} (h : ∀ (F : LF) (doc pm ctv : Value), F.d = d → ∃ k : Option (Array Value) → Sem (List (Str × Value)), bindArgs (F.fd doc pm ctv) ⟨[], []⟩ = seqItems? F.dV >>= k ∧ ∀ u, k (some #[u]) = pure [(p, u)]) : LBind d [p] [x] := fun F doc pm ctv s us dvs hd hl rd hv => by
  cases rd with
  | @cons _ u _ ur ru rr =>
    cases rr
    have e : us = [] := by
      cases us with
      | nil => rfl
      | cons a b =>
        simp at hl
    subst e
    rcases hv with ⟨_, z⟩ | ⟨_, t, o, n, e1, e2, e3⟩
    · cases z
    · obtain ⟨k, h1, h2⟩ := h F doc pm ctv hd
      exact BindsTo.of_defaults (n := n) e1 e2 e3 h1 (h2 u)
end
/-! ### a closure at a state -/
structure Clo (P : Program) (w : World) (K : PySem.W.Frag) (mg : Str → Option Value) (base : Heap) (k : Nat) (f : Addr) (sp : Sp) (s : Shared) (H : Hp) : Prop where
  fn : ∃ F, FnF H f F
  run : ∀ (A : Around) (outer : List Env) (s' : Shared) (H' : Hp) (us : List Value) (vs : List V) (Q : VK) (E : XK), Room k A → Env0 P w K mg base A outer s' H' → Kp s H s' H' → Vals vs us → sp vs H' Q E → codeAny (model P w) A (.call (.ref f) ⟨us, []⟩) (CR (L2.CX P w) outer P w H' s' Q E) s'
section
variable {P : Program} {w : World} {K : PySem.W.Frag} {mg : Str → Option Value} {base : Heap} {k j : Nat} {f : Addr} {sp : Sp} {s s' : Shared} {H H' : Hp}
theorem Clo.kp (c : Clo P w K mg base k f sp s H) (p : Kp s H s' H') : Clo P w K mg base k f sp s' H' := ⟨let ⟨F, z⟩ := c.fn; ⟨F, z.st p.still⟩, fun A outer s2 H2 us vs Q E hr e0 p2 => c.run A outer s2 H2 us vs Q E hr e0 (p.tr p2)⟩
theorem Clo.imp {sp' : Sp} (c : Clo P w K mg base k f sp s H) (h : ∀ vs H Q E, sp' vs H Q E → sp vs H Q E) : Clo P w K mg base k f sp' s H := ⟨c.fn, fun A outer s2 H2 us vs Q E hr e0 p2 r q => c.run A outer s2 H2 us vs Q E hr e0 p2 r (h _ _ _ _ q)⟩
theorem Clo.mono (c : Clo P w K mg base j f sp s H) (h : j ≤ k) : Clo P w K mg base k f sp s H := ⟨c.fn, fun A outer s2 H2 us vs Q E hr => c.run A outer s2 H2 us vs Q E (hr.mono h)⟩
theorem clo_of {d : LamD} {ps fr : List Str} {ds : List V} {F : LF} {ws : List (Option V)} {spl : List (Option V) → Sp} (L : LOk P w K mg base j d ps fr ds spl) (h : j ≤ k) (hd : F.d = d) (hF : Lam H f F ds) (C : CellsAt F.cl fr ws s.heap H) : Clo P w K mg base k f (spl ws) s H :=
  ⟨⟨F, hF.fn⟩, fun A outer s2 H2 us vs Q E hr e0 p2 r q => L.run F f A outer s2 H2 us vs ws Q E hd (hr.mono h) e0 (hF.st p2.still) (cellsAt_kp C p2) r q⟩
end
end G57
end
section
set_option maxRecDepth 100000
set_option maxHeartbeats 4000000
/-! XLam3: defs whose promise tells of the state; calls of closures. -/
namespace G57
open PySem PySem.Spec PyProof.Rows L2 LamX NdefX
abbrev SpS := Shared → Sp
def FnS (P : Program) (w : World) (K : PySem.W.Frag) (mg : Str → Option Value) (base : Heap) (CX : CXT) (k : Nat) (f : Addr) (spS : SpS) : Prop :=
  ∀ (A : Around) (outer : List Env) (s : Shared) (H : Hp) (us : List Value) (vs : List V) (Q : VK) (E : XK), Room k A → Env0 P w K mg base A outer s H → Vals vs us → spS s vs H Q E → codeAny (model P w) A (.call (.ref f) ⟨us, []⟩) (CR CX outer P w H s Q E) s
structure CalS (P : Program) (w : World) (K : PySem.W.Frag) (mg : Str → Option Value) (base : Heap) (CX : CXT) (k : Nat) (x : Str) (spS : SpS) : Prop where
  ex : ∃ f : Addr, FnS P w K mg base CX k f spS ∧ mg x = some (.ref f) ∧ PySem.W.keepIn K (.ref f) = true
section
variable {P : Program} {w : World} {K : PySem.W.Frag} {mg : Str → Option Value} {base : Heap} {CX : CXT}
theorem fnS_of {x qual : Str} {pa : Arguments} {bd : List Stmt} {sc : Scope} {kws : List (Str × V)} {f : Addr} {fd : FuncData} {N ps : List Str} {k : Nat} {spS : SpS} (F : FunD K x qual pa bd sc [] kws f fd) (S : FnScope N ps sc) (b : BindA x qual pa bd sc ps)
    (len : ∀ s vs H Q E, spS s vs H Q E → vs.length = ps.length)
    (hb : ∀ (cdv : Value) (A : Around) (outer : List Env) (s : Shared) (H : Hp) (vs : List V) (Q : VK) (E : XK), Room k (A.deeper (envOfC qual sc s.heap.objs.size f cdv)) → spS s vs H Q E →
      ∃ t, PSs (cxOf CX P w K mg base N qual sc f cdv A outer s H E) bd t ∧ t { nx := fun _ H' => Q .non H', rt := Q } (start N vs) H) : FnS P w K mg base CX (k + 1) f spS := by
  obtain ⟨oc, od, kV, doc, pm, an, cdv, ct, osl, rfl, lk, hcd⟩ := fun_of F
  intro A outer s H us vs Q E hr e0 r hsp
  have hl := len _ _ _ _ _ hsp
  exact run_ofS (us := us) (vs := vs) lk hcd S hr e0 (BindsTo.of_eq (b kV doc pm an cdv ct us (by rw [← r.length]; exact hl))) r hl fun hr' => hb cdv A outer s H vs Q E hr' hsp
theorem cals_of {d : DefA} {x : Str} {N ps : List Str} {k : Nat} {spS : SpS} (F : ∃ fd, d.Fn K fd) (hp : d.path = pG x) (hd : d.dfl = []) (hm : mg x = some (.ref (He.ga K x))) (S : FnScope N ps d.scope)
    (b : BindA d.name d.qual d.params d.body d.scope ps) (len : ∀ s vs H Q E, spS s vs H Q E → vs.length = ps.length)
    (hb : ∀ (cdv : Value) (A : Around) (outer : List Env) (s : Shared) (H : Hp) (vs : List V) (Q : VK) (E : XK), Room k (A.deeper (envOfC d.qual d.scope s.heap.objs.size (He.ga K x) cdv)) → spS s vs H Q E →
      ∃ t, PSs (cxOf CX P w K mg base N d.qual d.scope (He.ga K x) cdv A outer s H E) d.body t ∧ t { nx := fun _ H' => Q .non H', rt := Q } (start N vs) H) : CalS P w K mg base CX (k + 1) x spS := by
  obtain ⟨fd, F⟩ := F
  have F' : FunD K d.name d.qual d.params d.body d.scope [] (d.kws K) (He.ga K x) fd := by
    have q : FunD K d.name d.qual d.params d.body d.scope (d.dvs K) (d.kws K) (d.path K) fd := F
    unfold DefA.dvs at q
    rw [hd, hp] at q
    exact q
  exact ⟨_, fnS_of F' S b len hb, hm, F'.kp⟩
end
/-- how the state is told where a def is called -/
def tCallS (Kn : L2.St → Shared → Hp → Prop) (spS : SpS) (E : L2.St → XK) (t : TA) : TE := fun σ H Q => t σ H fun vs H1 => ∀ s, Kn σ s H1 → spS s vs H1 Q (E σ)
section
variable {X : Cx} {CX : CXT} {k j : Nat} {x : Str} {spS : SpS} {E : L2.St → XK} {Kn : L2.St → Shared → Hp → Prop} {p pos : Pos} {e : Expr} {es : List Expr} {t : TA}
theorem pe_cS (c : CalS X.prog X.w X.K X.mg X.base CX k x spS) (hr : Room j X.A) (hk : k ≤ j) (hg : Gl X x) (hKn : ∀ pins σ H s, Inv X pins σ H s → Kn σ s H) (hx : ∀ σ, PassesAt CX X σ (E σ)) (ha : PA X (e :: es) t)
    (hdb : (x == ("__debug__" : Str)) = false := by decide) (he : starEach (e :: es) X.env = (false, eval e X.env) :: starEach es X.env := by rfl) (hpl : (backTo pos (starEach es X.env)).any (·.1) = false := by rfl) :
    PE X (.Call (.Name x p) (e :: es) [] pos) (tCallS Kn spS E t) := by
  refine ⟨fun pins s σ H Q I h => ?_⟩
  obtain ⟨f, F, hm, kp⟩ := c.ex
  refine wpAny_Call_Name_kw (ld_glob I hg hm ?_ hdb)
  refine PySem.W.callWith_K (h₀ := X.base) I.ok.mod.kin kp (thn (ha.run pos pins s σ H _ I h) fun us s1 ⟨vs, H1, I1, r, q⟩ => ⟨I1.kIn, ?_⟩) he hpl
  refine wpAny_call (codeAny_mono (F X.A X.stack s1 H1 us vs Q (E σ) (hr.mono hk) I1.env0 r (q s1 (hKn _ _ _ _ I1))) fun r s' hq => ?_)
  cases r with
  | error e => exact hx σ pins H1 s1 e s' I1 hq
  | ok fl =>
    cases fl with
    | ret u => exact I1.after hq
    | next => exact False.elim hq
    | brk => exact False.elim hq
    | cont => exact False.elim hq
/-- a closure that a name holds, called without arguments -/
def tClo0 (i : Nat) (Ck : Shared → Hp → Addr → Sp → Prop) (E : L2.St → XK) : TE := fun σ H Q => ∃ f sp, σ[i]? = some (some (.ref f)) ∧ (∀ s, Ck s H f sp) ∧ sp [] H Q (E σ)
theorem clo_at {P : Program} {w : World} {H : Hp} {h : Heap} {f : Addr} {F : LF} (hok : HOk P w H h) (e : FnF H f F) : PySem.W.FnAt f h := by
  obtain ⟨doc, pm, ctv, z⟩ := e
  exact ⟨_, _, _, _, frz_at hok z⟩
/-- .. f(): what is known of closures is told by Kn -/
theorem pe_clo0 {i : Nat} (hr : Room j X.A) (hk : k ≤ j) (hx : ∀ σ, PassesAt (L2.CX X.prog X.w) X σ (E σ)) (hKn : ∀ pins σ H s, Inv X pins σ H s → Kn σ s H) (hN : X.N[i]? = some x) (hv : Vis X.env.scope x)
    (hd : (x == ("__debug__" : Str)) = false := by decide) (hcd : (x == ("__classdict__" : Str)) = false := by decide) :
    PE X (.Call (.Name x p) [] [] pos) (fun σ H Q => ∃ f sp, σ[i]? = some (some (.ref f)) ∧ (∀ s, Kn σ s H → Clo X.prog X.w X.K X.mg X.base k f sp s H) ∧ sp [] H Q (E σ)) := by
  refine ⟨fun pins s σ H Q I h => ?_⟩
  obtain ⟨f, sp, hs, hc, q⟩ := h
  refine wpAny_Call_Name_kw (thn ((pe_var (pos := p) (i := i) hN hv hd hcd).run pins s σ H (fun v H1 => v = .ref f ∧ H1 = H) I ⟨.ref f, hs, rfl, rfl⟩) fun u s1 ⟨v, H1, I1, r1, q1⟩ => ?_)
  obtain ⟨ev, eH⟩ := q1
  subst ev
  rw [eH] at I1
  obtain rfl : u = Value.ref f := r1
  have C := hc s1 (hKn _ _ _ _ I1)
  obtain ⟨F, hF⟩ := C.fn
  refine PySem.W.callWith_F0 (first := []) (clo_at I1.hok hF) ?_
  show wpAny _ _ (call (.ref f) []) _ _ _
  refine wpAny_call (codeAny_mono (C.run X.A X.stack s1 H [] [] Q (E σ) (hr.mono hk) I1.env0 .refl .nil q) fun r s' hq => ?_)
  cases r with
  | error e => exact hx σ pins H s1 e s' I1 hq
  | ok fl =>
    cases fl with
    | ret u => exact I1.after hq
    | next => exact False.elim hq
    | brk => exact False.elim hq
    | cont => exact False.elim hq
theorem pe_clo {i : Nat} (hr : Room j X.A) (hk : k ≤ j) (hx : ∀ σ, PassesAt (L2.CX X.prog X.w) X σ (E σ)) (hKn : ∀ pins σ H s, Inv X pins σ H s → Kn σ s H) (hN : X.N[i]? = some x) (hv : Vis X.env.scope x) (ha : PA X (e :: es) t)
    (hd : (x == ("__debug__" : Str)) = false := by decide) (hcd : (x == ("__classdict__" : Str)) = false := by decide)
    (he : starEach (e :: es) X.env = (false, eval e X.env) :: starEach es X.env := by rfl) (hpl : (backTo pos (starEach es X.env)).any (·.1) = false := by rfl) :
    PE X (.Call (.Name x p) (e :: es) [] pos) (fun σ H Q => ∃ f sp, σ[i]? = some (some (.ref f)) ∧ (∀ s, Kn σ s H → Clo X.prog X.w X.K X.mg X.base k f sp s H) ∧ t σ H fun vs H1 => (∃ F, FnF H1 f F) ∧ (∀ s, Kn σ s H1 → Clo X.prog X.w X.K X.mg X.base k f sp s H1) ∧ sp vs H1 Q (E σ)) := by
  refine ⟨fun pins s σ H Q I h => ?_⟩
  obtain ⟨f, sp, hs, hc, ht⟩ := h
  refine wpAny_Call_Name_kw (thn ((pe_var (pos := p) (i := i) hN hv hd hcd).run pins s σ H (fun v H1 => v = .ref f ∧ H1 = H) I ⟨.ref f, hs, rfl, rfl⟩) fun u s1 ⟨v, H1, I1, r1, q1⟩ => ?_)
  obtain ⟨ev, eH⟩ := q1
  subst ev
  rw [eH] at I1
  obtain rfl : u = Value.ref f := r1
  obtain ⟨F, hF⟩ := (hc s1 (hKn _ _ _ _ I1)).fn
  refine PySem.W.callWith_F (first := []) (clo_at I1.hok hF) (thn (ha.run pos pins s1 σ H _ I1 ht) fun us s2 ⟨vs, H2, I2, r, ⟨F2, h1⟩, h2, q⟩ => ⟨clo_at I2.hok h1, ?_⟩) he hpl
  show wpAny _ _ (call (.ref f) us) _ _ _
  refine wpAny_call (codeAny_mono ((h2 s2 (hKn _ _ _ _ I2)).run X.A X.stack s2 H2 us vs Q (E σ) (hr.mono hk) I2.env0 .refl r q) fun r s' hq => ?_)
  cases r with
  | error e => exact hx σ pins H2 s2 e s' I2 hq
  | ok fl =>
    cases fl with
    | ret u => exact I2.after hq
    | next => exact False.elim hq
    | brk => exact False.elim hq
    | cont => exact False.elim hq
/-- in the frame of a def entered at s_0: what is known there is known on -/
theorem kp_of {pins : List (Addr × Obj)} {σ : L2.St} {H : Hp} {s : Shared} (hex : X.ex = []) (I : Inv X pins σ H s) : Kp X.s_0 X.H_0 s H := Kp.un I.base fun b v _ _ => by
  rw [hex]
  simp
end
end G57
end
section
set_option maxRecDepth 100000
set_option maxHeartbeats 4000000
/-! XLam4: a comprehension whose block is told what the def's frame knows; the head's facts with tables; the end. -/
namespace G57
open PySem PySem.Spec PyProof.Rows L2 LamX NdefX
section
variable {X : Cx} {elt tg iter : Expr} {ifs : List Expr} {scope : Scope} {own : List (Str × Nat)} {pos pos' : Pos} {wi : TI} {g : TG} {tt : TT} {te : TE}
/-- the three parts of a block, where the def's frame stands at its start -/
def BlkK (X : Cx) (scope : Scope) (tg : Expr) (ifs : List Expr) (elt : Expr) (g : TG) (tt : TT) (te : TE) (σ : L2.St) : Prop :=
  ∀ (pl : List (Addr × Obj)) (s0 : Shared) (H0 : Hp) (C : Addr) (cl : List (Str × Addr)) (fp : List Addr), Inv X pl σ H0 s0 → (∀ b ∈ fp, ∃ o, s0.heap.get? b = some o ∧ ∀ v, o.data ≠ .cell v) →
    PG (X.blk s0 H0 scope (compEnvC scope cl C X.env) fp) tg g ∧ PTs (X.blk s0 H0 scope (compEnvC scope cl C X.env) fp) ifs tt ∧ PE (X.blk s0 H0 scope (compEnvC scope cl C X.env) fp) elt te
theorem lcK {pins : List (Addr × Obj)} {s : Shared} {σ : L2.St} {H : Hp} {Q : VK} {use : Option (Value → Sem Unit)} {Qf : Value → Shared → Prop} (calm : X.calm = true) (nd : X.N.Nodup) (I : Inv X pins σ H s) (walk : PI X tg iter wi) (ok : BlkOk X.N X.env.scope scope own)
    (blk : BlkK X scope tg ifs elt g tt te σ) (fold : ∀ x, foldedSetIterable iter X.env x = pure x) (rd : tLc wi g tt te (own.map (·.2)) σ H Q)
    (out : ∀ D C s' m H', Inv X pins σ H' s' → Q (.ref D) H' → s'.heap.Ns C m → FpOk X pins H' C → compPost (model X.prog X.w) X.A X.xe use Qf (.ref D) C (.ok .next) s') :
    wpAny (model X.prog X.w) X.A (comprehension (.ListComp elt [⟨tg, iter, ifs, 0⟩] scope pos) scope X.env pos' (newList []) false (eval iter X.env) use) Qf X.xe s := by
  have caught : ∀ y ∈ scope.names, y.2 = .free → ∃ c, X.env.cells.lookup y.1 = some c := fun y hy e => (ok.free y hy e).elim (fun z => I.ok.has _ (.inl z)) fun z => I.ok.has _ (.inr z)
  refine wpAny_comprehension_free (use := use) rfl fold (closure_ok caught) ok.kind (fun y hy e => (ok.uniq y hy).trans (congrArg some e)) (thn (walk.run pins s σ H _ I rd) fun xv s1 hx => thn hx fun itv s2 hw => ?_)
  obtain ⟨it, fp, tn, J, H2, rfl, I2, T, at0, fp0, turns⟩ := hw
  refine wpAny_newObj_type (newEnv_comp ?_) (by show 0 ≤ sizeLine; decide)
  -- the list that is made
  obtain ⟨D, hD⟩ : ∃ D, D = s2.heap.objs.size := ⟨_, rfl⟩
  rw [← hD]
  have newD : H2 D = none := I2.hok.fresh (by rw [hD]; exact Nat.le_refl _)
  obtain ⟨W, ⟨m0, start⟩, turn⟩ := turns D newD
  obtain ⟨sA, hA⟩ : ∃ sA : Shared, sA = { s2 with heap := s2.heap.push { cls := .type "list", data := .seq ([] : List Value).toArray } } := ⟨_, rfl⟩
  have hpA : sA.heap = s2.heap.push { cls := .type "list", data := .seq ([] : List Value).toArray } := congrArg Shared.heap hA
  have keepA : ∀ b o, s2.heap.get? b = some o → sA.heap.get? b = some o := fun b o e => by
    rw [hpA]
    exact Heap.get?_push_of_some _ e
  obtain ⟨HA, hHA⟩ : ∃ HA : Hp, HA = upd H2 D (.lst []) := ⟨_, rfl⟩
  rw [← hHA] at start
  have IA : Inv X pins σ HA sA := by
    subst hHA hA
    exact I2.laid (t' := s2.toks) keepA (by rw [hD]; exact Nat.le_refl _) ⟨Nat.zero_le _, [], 0, .nil, by rw [hD]; exact Heap.get?_push_size _ rfl⟩
  have old : ∀ b ∈ fp, b < s2.heap.objs.size := fun b hb => let ⟨o, e, _⟩ := T.obj _ _ at0 b hb; Heap.lt_size e
  have fpA : ∀ b ∈ fp, FpOk X pins HA b ∧ b < sA.heap.objs.size := fun b hb => by
    have lt := old b hb
    have z := fp0 b hb
    refine ⟨⟨by rw [hHA, upd_ne (by rw [hD]; exact Nat.ne_of_lt lt)]; exact z.1, z.2⟩, ?_⟩
    rw [hpA, Heap.size_push]
    exact Nat.lt_succ_of_lt lt
  have atA : tn 0 sA.heap := T.keep _ _ _ at0 fun b _ o e => keepA b o e
  have IB := block_start IA ok nd fpA
  obtain ⟨pg, pt, pe⟩ := blk pins sA HA sA.heap.objs.size (cellsFrom (sA.heap.objs.size + 1) scope.names (cloFrom X.env.cells scope.names [])) fp IA (T.obj 0 _ atA)
  rw [← hA]
  show codeAny _ _ (.compStart (.ListComp elt [⟨tg, iter, ifs, 0⟩] scope pos) 0 (.ref it) (.ref D) (compEnvC scope (cellsFrom (sA.heap.objs.size + 1) scope.names (cloFrom X.env.cells scope.names [])) sA.heap.objs.size X.env)) (compPost (model X.prog X.w) X.A X.xe use Qf (.ref D) sA.heap.objs.size) { sA with heap := pushCells (sA.heap.push { cls := .type "dict", data := .dict #[] }) scope.names }
  have untr : ∀ b ∈ fp, HA b = none := fun b hb => (fpA b hb).1.1
  obtain ⟨ce, hce⟩ : ∃ ce : Env, ce = compEnvC scope (cellsFrom (sA.heap.objs.size + 1) scope.names (cloFrom X.env.cells scope.names [])) sA.heap.objs.size X.env := ⟨_, rfl⟩
  have ceL : ce.locals = sA.heap.objs.size := by rw [hce] <;> rfl
  rw [← hce] at IB pg pt pe ⊢
  obtain ⟨sB, hB⟩ : ∃ sB : Shared, sB = { sA with heap := pushCells (sA.heap.push { cls := .type "dict", data := .dict #[] }) scope.names } := ⟨_, rfl⟩
  rw [← hB] at IB ⊢
  have atB : tn 0 sB.heap := T.keep _ _ _ atA fun b _ o e => by
    rw [hB]
    exact pushCells_keeps _ _ _ _ (Heap.get?_push_of_some _ e)
  have own_fp : ∀ {σ' : L2.St} {H' : Hp} {s' : Shared}, Inv (X.blk sA HA scope ce fp) [] σ' H' s' → (∀ b ∈ fp, H' b = none) → ∀ b ∈ fp, FpOk (X.blk sA HA scope ce fp) [] H' b := fun J' n b hb =>
    ⟨n b hb, (J'.ok.exf b hb).1, J'.ok.exfs b hb, .inl hb, fun x c e => (J'.ok.exf b hb).2 x c e, fun p hp => (nomatch (show p ∈ ([] : List (Addr × Obj)) from hp))⟩
  have back : ∀ {σ' : L2.St} {H' : Hp} {s' : Shared}, Inv (X.blk sA HA scope ce fp) [] σ' H' s' → Inv X pins σ H' s' := fun J' => IA.call' (ch := fp) J'.os J'.base J'.hok J'.bare fun b hb => ⟨(fpA b hb).1.2.2.2.1, (fpA b hb).1.2.1, (fpA b hb).1.2.2.2.2.1, (fpA b hb).1.2.2.2.2.2⟩
  let G : Nat → Shared → Prop := fun n s' => ∃ i H', Inv (X.blk sA HA scope ce fp) [] (wipe σ (own.map (·.2))) H' s' ∧ tn i s'.heap ∧ (∀ b ∈ fp, H' b = none) ∧ W i n H'
  have loop : codeAny (model X.prog X.w) X.A (.compLoop (.ListComp elt [⟨tg, iter, ifs, 0⟩] scope pos) 0 (.ref it) (.ref D) ce) (compPost (model X.prog X.w) X.A X.xe use Qf (.ref D) sA.heap.objs.size) sB := by
    refine compLoop_any G (fun n sC hG => ?_) m0 ⟨0, HA, IB, atB, untr, start⟩
    obtain ⟨i, HC, IC, atC, unC, wC⟩ := hG
    rcases turn i n HC wC with ⟨stop, qq⟩ | ⟨go, Nx, nxt, step⟩
    · refine thnF (T.done (X.blk sA HA scope ce fp) rfl rfl rfl calm i [] sC _ HC (fun _ _ => False) IC (own_fp IC unC) atC stop) fun r sD ⟨hr, ID⟩ => ?_
      subst hr
      have nC : HC sA.heap.objs.size = none := ceL ▸ ID.free
      obtain ⟨m, hn, _⟩ := ID.loc
      exact out D sA.heap.objs.size sD m HC (back ID) qq (ceL ▸ hn) (IA.fpOk (Nat.le_refl _) nC)
    · refine thnF (T.item (X.blk sA HA scope ce fp) rfl rfl rfl calm i [] sC _ HC (fun _ _ => False) IC (own_fp IC unC) atC go) fun r sD ⟨u, hr, more⟩ => ?_
      subst hr
      refine thnF more fun _ sE ⟨x, HE, IE, rx, yl, atE, unE⟩ => ?_
      have IE' := IE.pinned (own_fp IE unE) (T.obj _ _ atE)
      refine thnF (pg.run _ sE _ HE x u _ IE' rx (step x HE yl)) fun _ sF ⟨σF, HF, IF, wip, qF⟩ => ?_
      refine thnF (pt.run _ sF σF HF _ IF qF) fun b sK ⟨HK, IK, qK⟩ => ?_
      have closes : ∀ {s' : Shared} {H' : Hp}, Inv (X.blk sA HA scope ce fp) ([] ++ pinsAt fp sE.heap) σF H' s' → Nx H' → ∃ m, m < n ∧ G m s' := fun {s' H'} J' nx => by
        obtain ⟨m', lt, w'⟩ := nxt H' nx
        have pinned : ∀ b ∈ fp, ∀ o, sE.heap.get? b = some o → s'.heap.get? b = some o ∧ H' b = none := fun b hb o e => by
          have z := J'.pin (b, o) (List.mem_append_right _ (List.mem_append_right _ (mem_pinsAt hb e)))
          exact ⟨z.1, z.2.1⟩
        refine ⟨m', lt, i + 1, H', (J'.unpinned (pins := [])).weak (by rw [← wip, wipe_length]) (fun j v e => ?_), T.keep _ _ _ atE fun b hb o e => (pinned b hb o e).1, fun b hb => ?_, w'⟩
        · rw [← wip] at e
          exact (wipe_some e).1
        · obtain ⟨o, e, _⟩ := T.obj _ _ atE b hb
          exact (pinned b hb o e).2
      cases b with
      | false =>
        simp only [Bool.false_eq_true, if_false] at qK ⊢
        exact closes IK qK
      | true =>
        simp only [if_true] at qK ⊢
        exact thnF (pe.run _ sK σF HK _ IK qK) fun z sL ⟨yv, HL, IL, rz, acc, aD, az, nx⟩ => app_ok (X := X.blk sA HA scope ce fp) IL aD az rz fun sM IM => closes IM nx
  exact codeAny_compStart_list loop (T.self X.A 0 _ _ _ atB loop)
/-- as a value; what the block reads may lean on the def's slots at its start -/
theorem pe_lcK {tt : L2.St → TT} {te : L2.St → TE} (calm : X.calm = true) (nd : X.N.Nodup) (walk : PI X tg iter wi) (ok : BlkOk X.N X.env.scope scope own) (blk : ∀ σ, BlkK X scope tg ifs elt g (tt σ) (te σ) σ) (fold : ∀ x, foldedSetIterable iter X.env x = pure x := by intro _; rfl) :
    PE X (.ListComp elt [⟨tg, iter, ifs, 0⟩] scope pos) (fun σ H Q => tLc wi g (tt σ) (te σ) (own.map (·.2)) σ H Q) := by
  refine ⟨fun pins s σ H Q I h => ?_⟩
  rw [eval_ListComp]
  refine lcK calm nd I walk ok (blk σ) fold h fun D C s' m H' I' q hn f => ⟨m, hn, fun h'' sb => ⟨.ref D, H', ?_, rfl, q⟩⟩
  exact I'.turned (t' := s'.toks) (fun b o hb e => (sb.2 b hb).trans e) f.1 f.2.1 f.2.2.2.1 f.2.2.2.2.1 f.2.2.2.2.2
end
/-- what was known at the block's start is known in it -/
theorem kp_blk {X : Cx} {s0 : Shared} {H0 : Hp} {scope : Scope} {ce : Env} {fp : List Addr} {pins : List (Addr × Obj)} {σ : L2.St} {H : Hp} {s : Shared} (hf : ∀ b ∈ fp, ∃ o, s0.heap.get? b = some o ∧ ∀ v, o.data ≠ .cell v) (I : Inv (X.blk s0 H0 scope ce fp) pins σ H s) : Kp s0 H0 s H :=
  Kp.un I.base fun b v ⟨o, ho, hd⟩ _ hb => by
    obtain ⟨o2, e, n⟩ := hf b hb
    rw [ho] at e
    cases e
    exact n v hd
/-! ### the place of a lambda in a text -/
def kS : Stmt → List Stmt
  | .For _ _ b o _ => b ++ o
  | .While _ b o _ => b ++ o
  | .If _ b o _ => b ++ o
  | .Try b _ o f _ => b ++ o ++ f
  | .With _ b _ => b
  | _ => []
def kE : Stmt → List Expr
  | .Return (some e) _ => [e]
  | .Assign _ e _ => [e]
  | .AugAssign _ _ e _ => [e]
  | .For _ i _ _ _ => [i]
  | .While t _ _ _ => [t]
  | .If t _ _ _ => [t]
  | .Expr e _ => [e]
  | _ => []
def eE : Expr → List Expr
  | .BoolOp _ vs _ => vs
  | .BinOp a _ b _ => [a, b]
  | .UnaryOp _ e _ => [e]
  | .Lambda _ b _ _ => [b]
  | .IfExp t a b _ => [t, a, b]
  | .Compare a _ bs _ => a :: bs
  | .Call f es _ _ => f :: es
  | .List es _ => es
  | .Tuple es _ _ => es
  | .Attribute e _ _ => [e]
  | .Subscript a b _ => [a, b]
  | _ => []
def noS : Stmt := .Pass ⟨0, 0, 0, 0⟩
def noE : Expr := .Name "?" ⟨0, 0, 0, 0⟩
def stP : List Stmt → List Nat → Stmt
  | _, [] => noS
  | l, [i] => l.getD i noS
  | l, i :: r => stP (kS (l.getD i noS)) r
def exP : Expr → List Nat → Expr
  | e, [] => e
  | e, i :: r => exP ((eE e).getD i noE) r
def lamE : Expr → LamD
  | .Lambda a b s p => ⟨a, b, s, p⟩
  | e => ⟨⟨[], [], none, [], [], none, []⟩, e, defScope noS, ⟨0, 0, 0, 0⟩⟩
/-- the lambda at the places r in the first expression of the statement at the places q -/
def lamAt (bd : List Stmt) (q r : List Nat) : LamD := lamE (exP ((kE (stP bd q)).getD 0 noE) r)
theorem lm_free {N : List Str} {sc lsc : Scope} {fr : List Str} {js : List Nat} (h : capB N sc lsc fr js = true) : ∀ y ∈ lsc.names, y.2 = .free → sc.names.lookup y.1 = some .cell ∨ sc.names.lookup y.1 = some .free := by
  unfold capB at h
  simp only [Bool.and_eq_true, Bool.or_eq_true, Bool.not_eq_true', decide_eq_true_eq, decide_eq_false_iff_not, List.all_eq_true] at h
  intro y hy e
  rcases h.1.1 y hy with (z | z) | z
  · exact absurd e z
  · exact .inl z
  · exact .inr z
theorem tl_uniq {l : List (Addr × Str)} (nd : (l.map fun z => z.1).Nodup) {p q : Addr × Str} (hp : p ∈ l) (hq : q ∈ l) (e : p.1 = q.1) : p = q := by
  induction l with
  | nil => cases hp
  | cons x l ih =>
    rw [List.map_cons] at nd
    obtain ⟨n1, n2⟩ := List.nodup_cons.mp nd
    rcases List.mem_cons.mp hp with h1 | h1
    · rcases List.mem_cons.mp hq with h2 | h2
      · rw [h1, h2]
      · subst h1
        exact absurd (by rw [e]; exact List.mem_map.mpr ⟨q, h2, rfl⟩) n1
    · rcases List.mem_cons.mp hq with h2 | h2
      · subst h2
        exact absurd (by rw [← e]; exact List.mem_map.mpr ⟨p, h1, rfl⟩) n1
      · exact ih n2 h1 h2
/-! ### a def whose code object is known -/
section
variable {P : Program} {w : World} {K : PySem.W.Frag} {mg : Str → Option Value} {base : Heap}
theorem cd_of {x : Str} {d : DefA} {fd : FuncData} (F : d.Fn K fd) (hp : d.path K = He.fAd K (x, none)) {oc : Value} {od : Option Addr} {dV kV doc pm cdv ct : Value} {an : Option Addr} {osl : Array (Option Value)} (e : fd = PySem.W.fnOf d.name d.qual d.params d.body d.scope dV kV doc pm an cdv ct)
    (lk : K.lookup (d.path K) = some ⟨oc, od, .func fd, osl⟩) (hc : PySem.W.codeIn K cdv d.qual = true) : cdv = .ref (He.codeOf K (x, none)) := by
  obtain ⟨c, hc2⟩ := He.codeIn_ref hc
  have z := He.codeOf_eq (K := K) (p := (x, none)) (fd := fd) (c := c) (by rw [← hp]; exact lk) (by rw [e]; exact hc2)
  rw [z, hc2]
/-- what a body must show that knows its code object, nothing let out -/
abbrev BodyC (P : Program) (w : World) (K : PySem.W.Frag) (mg : Str → Option Value) (base : Heap) (N : List Str) (x : Str) (d : DefA) (k : Nat) (sp : Sp) : Prop :=
  ∀ (A : Around) (outer : List Env) (s : Shared) (H : Hp) (vs : List V) (Q : VK) (E : XK), Room k (A.deeper (envOfC d.qual d.scope s.heap.objs.size (He.ga K x) (.ref (He.codeOf K (x, none))))) → sp vs H Q E →
    ∃ t, PSs (cxOf CX0 P w K mg base N d.qual d.scope (He.ga K x) (.ref (He.codeOf K (x, none))) A outer s H E).nox d.body t ∧ t { nx := fun _ H' => Q .non H', rt := Q } (start N vs) H
theorem fnC_of {d : DefA} {x : Str} {N ps : List Str} {k : Nat} {sp : Sp} {fd : FuncData} (F : FunD K d.name d.qual d.params d.body d.scope [] (d.kws K) (He.ga K x) fd) (S : FnScope N ps d.scope) (len : ∀ vs H Q E, sp vs H Q E → vs.length = ps.length) (hb : BodyC P w K mg base N x d k sp) :
    FnOk P w K mg base CX0 (k + 1) (He.ga K x) fd ps sp := by
  obtain ⟨oc, od, kV, doc, pm, an, cdv, ct, osl, e, lk, hcd⟩ := fun_of F
  obtain ⟨c, hc2⟩ := He.codeIn_ref hcd
  have z := He.codeOf_eq (K := K) (p := (x, none)) (fd := fd) (c := c) lk (by rw [e]; exact hc2)
  subst e
  have ec : cdv = .ref (He.codeOf K (x, none)) := by rw [z, hc2]
  subst ec
  refine fn_of lk hcd S len fun A outer s H vs Q E hr hsp => ?_
  obtain ⟨t, h, q⟩ := hb A outer s H vs Q E hr hsp
  exact ⟨t, h.nox, q⟩
theorem calC_of {d : DefA} {x : Str} {N ps : List Str} {k : Nat} {sp : Sp} (F : ∃ fd, d.Fn K fd) (hp : d.path = pG x) (hd : d.dfl = []) (hm : mg x = some (.ref (He.ga K x))) (S : FnScope N ps d.scope)
    (b : BindA d.name d.qual d.params d.body d.scope ps) (len : ∀ vs H Q E, sp vs H Q E → vs.length = ps.length) (hb : BodyC P w K mg base N x d k sp) : C8.Cal P w K mg base (k + 1) x sp [] := by
  obtain ⟨fd, F⟩ := F
  have F' : FunD K d.name d.qual d.params d.body d.scope [] (d.kws K) (He.ga K x) fd := by
    have q : FunD K d.name d.qual d.params d.body d.scope (d.dvs K) (d.kws K) (d.path K) fd := F
    unfold DefA.dvs at q
    rw [hd, hp] at q
    exact q
  have Fk := fnC_of (P := P) (w := w) (mg := mg) (base := base) F' S len hb
  obtain ⟨oc, od, kV, doc, pm, an, cdv, ct, osl, rfl, lk, hcd⟩ := fun_of F'
  exact ⟨_, _, ps, [], Fk, hm, F'.kp, .all (b kV doc pm an cdv ct), .nil⟩
end
/-! ### the head's facts with empty tables -/
def obsT (n : Nat) (ex : List Ex) (fn : List DefA) (tf : List He.Defn) (g : Addr → Option Obj) : AlA :=
  ((obsA ex fn (He.frT g (asA g n))).1 && He.tabsB g tf (He.frT g (asA g n)), (obsA ex fn (He.frT g (asA g n))).2)
structure SaysTb (ex : List Ex) (fn : List DefA) (tf : List He.Defn) (h : Heap) (K : PySem.W.Frag) : Prop where
  a : SaysA ex fn K
  hd : ∀ p ∈ tf, PySem.W.codeHdIn K (He.cT K p).1 (He.cT K p).2 = true
  out : ∀ p ∈ tf, K.lookup (He.cT K p).2 = none
  empty : ∀ p ∈ tf, h.get? (He.cT K p).2 = some { cls := .none, data := .fields #[] }
theorem saysTb_of {n : Nat} {ex : List Ex} {fn : List DefA} {tf : List He.Defn} {h : Heap} (e : obsT n ex fn tf h.get? = valA fn) : SaysTb ex fn tf h (He.frT h.get? (asA h.get? n)) := by
  obtain ⟨KK, hK⟩ : ∃ KK, KK = He.frT h.get? (asA h.get? n) := ⟨_, rfl⟩
  have e1 := congrArg (fun z : AlA => z.1) e
  have e2 := congrArg (fun z : AlA => z.2) e
  unfold obsT at e1 e2
  rw [← hK] at e1 e2 ⊢
  obtain ⟨a1, a2⟩ := He.ba (show ((obsA ex fn KK).1 && He.tabsB h.get? tf KK) = true from e1)
  have each : ∀ p ∈ tf, PySem.W.codeHdIn KK (He.cT KK p).1 (He.cT KK p).2 = true ∧ ∃ o, h.get? (He.cT KK p).2 = some o ∧ He.emptyTab o = true := fun p hp => by
    obtain ⟨b1, b2⟩ := He.ba (List.all_eq_true.mp a2 p hp)
    refine ⟨b1, ?_⟩
    cases q : h.get? (He.cT KK p).2 with
    | none =>
      rw [q] at b2
      cases b2
    | some o =>
      rw [q] at b2
      exact ⟨o, rfl, b2⟩
  refine ⟨Prod.ext a1 e2, fun p hp => (each p hp).1, fun p hp => ?_, fun p hp => ?_⟩
  · obtain ⟨_, o, q, z⟩ := each p hp
    have r := He.frT_none (as := asA h.get? n) q z
    rw [← hK] at r
    exact r
  · obtain ⟨_, o, q, z⟩ := each p hp
    rw [q, He.emptyTab_eq z]
def hookT (n : Nat) (ex : List Ex) (fn : List DefA) (tf : List He.Defn) : PySem.W.Hook where
  α := AlA
  obs := fun s => obsT n ex fn tf s.heap.get?
  val := fun _ => valA fn
  says := fun _ h => ∃ K : PySem.W.Frag, K.In h ∧ SaysTb ex fn tf h K
  of := fun _ _ e => ⟨_, He.frT_in, saysTb_of e⟩
  keeps := fun _ _ _ z k => let ⟨K, hK, c⟩ := z; ⟨K, PySem.W.Frag.In.keeps hK k, c.a, c.hd, c.out, fun p hp => k _ _ (c.empty p hp)⟩
theorem obsT_eq {n : Nat} {ex : List Ex} {fn : List DefA} {tf : List He.Defn} {g : Addr → Option Obj} {s : Shared} (h : ∀ a, g a = s.heap.get? a) : obsT n ex fn tf g = (hookT n ex fn tf).obs s := by
  have e : g = s.heap.get? := funext h
  rw [e]
  rfl
/-! ### the end -/
theorem walk_ofT {l : PySem.W.OpenLaw} {n k : Nat} {q : Program} {loose : List Str} {XP : (Str → Option Value) → Heap → Prop} {YP : World → Heap → Prop} {d : DefRec} {x : Str}
    (hn : l.most = some n) (hn2 : n ≤ sizeLine) (hdf : d.params.defaults = []) (hr : Room k callerA)
    (F : ∀ (w : World) (mg : Str → Option Value) (fa : Addr) (h : Heap), YP w h → h.Ns mainGlobals mg → mg d.name = some (.ref fa) →
      ∃ (K : PySem.W.Frag) (fd : FuncData) (cs : List (Addr × Addr)) (sp : Sp), K.In h ∧ (∀ p ∈ cs, h.get? p.2 = some { cls := .none, data := .fields #[] }) ∧ (∀ p ∈ cs, K.lookup p.2 = none) ∧ (∀ p ∈ cs, PySem.W.CodeHd h p.1 p.2) ∧ (∀ (s : Shared) (u : Value), BindsTo s fd ⟨[u], []⟩ [(x, u)]) ∧
        (∀ (H : Hp) (a : Addr) (ns : List Int), ns.length ≤ n → (∀ p ∈ cs, H p.2 = some (.tbl #[])) → SqL K H a (ns.map V.int) → sp [.ref a] H (fun v _ => v = .bl true) fun _ _ _ => False) ∧
        ∀ base : Heap, K.In base → base.Ns mainGlobals mg → (∀ p ∈ cs, TabB base mg p.1 p.2) → FnOk l.prog w K mg base CX0 k fa fd [x] sp) :
    PySem.W.WalkO q loose XP YP l.row.toRowW d [] (fun f vs => PySem.call f vs) := by
  refine Att.attach_call hn hdf fun w s0 s1 mg mb fa o pm cd doc a vs ns G Y ho hd hcd hmg hobj hints hlen hg => ?_
  obtain ⟨K, fd, cs, sp, KX, hT, nT, C, hb, hsp, hF⟩ := F w mg fa _ Y G.T.g hmg
  exact law_callTs KX G.T.g G.T.b G.T.builtins G.T.nolimit hg hT nT C G.T.bmain hobj hints (Nat.le_trans hlen hn2) hr hF hb (fun H hH hS => hsp H a ns hlen hH hS) fun H e s' z => z
end G57
end
section
set_option maxRecDepth 100000
set_option maxHeartbeats 4000000
/-! XExc: defs and methods that may raise. -/
namespace G57
open PySem PySem.Spec PyProof.Rows L2
section
variable {P : Program} {w : World} {K : PySem.W.Frag} {mg : Str → Option Value} {base : Heap}
/-- what a body must show that may raise -/
abbrev BodyX (P : Program) (w : World) (K : PySem.W.Frag) (mg : Str → Option Value) (base : Heap) (N : List Str) (d : DefA) (f : Addr) (k : Nat) (sp : Sp) : Prop :=
  ∀ (cdv : Value) (A : Around) (outer : List Env) (s : Shared) (H : Hp) (vs : List V) (Q : VK) (E : XK), Room k (A.deeper (envOfC d.qual d.scope s.heap.objs.size f cdv)) → sp vs H Q E →
    ∃ t, PSs (cxOf (L2.CX P w) P w K mg base N d.qual d.scope f cdv A outer s H E) d.body t ∧ t { nx := fun _ H' => Q .non H', rt := Q } (start N vs) H
structure CalX (P : Program) (w : World) (K : PySem.W.Frag) (mg : Str → Option Value) (base : Heap) (k : Nat) (x : Str) (sp : Sp) : Prop where
  ex : ∃ (f : Addr) (fd : FuncData) (ps : List Str), FnOk P w K mg base (L2.CX P w) k f fd ps sp ∧ mg x = some (.ref f) ∧ PySem.W.keepIn K (.ref f) = true ∧ Binds K fd ps []
structure MetX (P : Program) (w : World) (K : PySem.W.Frag) (mg : Str → Option Value) (base : Heap) (k : Nat) (C : Addr) (m : Str) (sp : Sp) : Prop where
  ex : ∃ (f : Addr) (fd : FuncData) (ps : List Str), Cls K C ∧ Meth K C m f ∧ FnOk P w K mg base (L2.CX P w) k f fd ps sp ∧ Binds K fd ps []
structure MakX (P : Program) (w : World) (K : PySem.W.Frag) (mg : Str → Option Value) (base : Heap) (k : Nat) (x : Str) (C : Addr) (sp : Sp) : Prop where
  ex : ∃ (f : Addr) (fd : FuncData) (ps : List Str), Mk K C f ∧ FnOk P w K mg base (L2.CX P w) k f fd ps sp ∧ mg x = some (.ref C) ∧ Binds K fd ps []
theorem fnx_of {d : DefA} {f : Addr} {fd : FuncData} {N ps : List Str} {k : Nat} {sp : Sp} (F : FunD K d.name d.qual d.params d.body d.scope [] (d.kws K) f fd) (S : FnScope N ps d.scope) (len : ∀ vs H Q E, sp vs H Q E → vs.length = ps.length) (hb : BodyX P w K mg base N d f k sp) :
    FnOk P w K mg base (L2.CX P w) (k + 1) f fd ps sp := by
  obtain ⟨oc, od, kV, doc, pm, an, cdv, ct, osl, rfl, lk, hcd⟩ := fun_of F
  exact fn_of lk hcd S len fun A outer s H vs Q E hr hsp => hb cdv A outer s H vs Q E hr hsp
theorem fd_at {d : DefA} {p : PySem.W.Frag → Addr} (F : ∃ fd, d.Fn K fd) (hp : d.path = p) (hd : d.dfl = []) : ∃ fd, FunD K d.name d.qual d.params d.body d.scope [] (d.kws K) (p K) fd := by
  obtain ⟨fd, F⟩ := F
  refine ⟨fd, ?_⟩
  have q : FunD K d.name d.qual d.params d.body d.scope (d.dvs K) (d.kws K) (d.path K) fd := F
  unfold DefA.dvs at q
  rw [hd, hp] at q
  exact q
theorem binds_of {d : DefA} {f : Addr} {fd : FuncData} {ps : List Str} (F : FunD K d.name d.qual d.params d.body d.scope [] (d.kws K) f fd) (b : BindA d.name d.qual d.params d.body d.scope ps) : Binds K fd ps [] := by
  obtain ⟨oc, od, kV, doc, pm, an, cdv, ct, osl, rfl, lk, hcd⟩ := fun_of F
  exact .all (b kV doc pm an cdv ct)
theorem calX_of {d : DefA} {x : Str} {N ps : List Str} {k : Nat} {sp : Sp} (F : ∃ fd, d.Fn K fd) (hp : d.path = pG x) (hd : d.dfl = []) (hm : mg x = some (.ref (He.ga K x))) (S : FnScope N ps d.scope)
    (b : BindA d.name d.qual d.params d.body d.scope ps) (len : ∀ vs H Q E, sp vs H Q E → vs.length = ps.length) (hb : BodyX P w K mg base N d (He.ga K x) k sp) : CalX P w K mg base (k + 1) x sp := by
  obtain ⟨fd, F⟩ := fd_at F hp hd
  exact ⟨_, fd, ps, fnx_of F S len hb, hm, F.kp, binds_of F b⟩
theorem metX_of {d : DefA} {C m : Str} {N ps : List Str} {k : Nat} {sp : Sp} (F : ∃ fd, d.Fn K fd) (hp : d.path = pM C m) (hd : d.dfl = []) (hc : Cls K (He.ga K C)) (hm : Meth K (He.ga K C) m (He.ma K (He.ga K C) m)) (S : FnScope N ps d.scope)
    (b : BindA d.name d.qual d.params d.body d.scope ps) (len : ∀ vs H Q E, sp vs H Q E → vs.length = ps.length) (hb : BodyX P w K mg base N d (He.ma K (He.ga K C) m) k sp) : MetX P w K mg base (k + 1) (He.ga K C) m sp := by
  obtain ⟨fd, F⟩ := fd_at F hp hd
  exact ⟨_, fd, ps, hc, hm, fnx_of F S len hb, binds_of F b⟩
theorem makX_of {d : DefA} {C : Str} {N ps : List Str} {k : Nat} {sp : Sp} (F : ∃ fd, d.Fn K fd) (hp : d.path = pM C "__init__") (hd : d.dfl = []) (hm : mg C = some (.ref (He.ga K C))) (M : Mk K (He.ga K C) (He.ma K (He.ga K C) "__init__")) (S : FnScope N ps d.scope)
    (b : BindA d.name d.qual d.params d.body d.scope ps) (len : ∀ vs H Q E, sp vs H Q E → vs.length = ps.length) (hb : BodyX P w K mg base N d (He.ma K (He.ga K C) "__init__") k sp) : MakX P w K mg base (k + 1) C (He.ga K C) sp := by
  obtain ⟨fd, F⟩ := fd_at F hp hd
  exact ⟨_, fd, ps, M, fnx_of F S len hb, hm, binds_of F b⟩
end
section
variable {X : Cx} {k j : Nat} {C : Addr} {x m : Str} {sp : Sp} {p pos apos : Pos} {e o : Expr} {es : List Expr} {ta : TE} {t : TA} {E : XK}
theorem pe_cX (c : CalX X.prog X.w X.K X.mg X.base k x sp) (hr : Room j X.A) (hk : k ≤ j) (hg : Gl X x) (hx : Passes (L2.CX X.prog X.w) X E) (ha : PA X (e :: es) t)
    (hdb : (x == ("__debug__" : Str)) = false := by decide) (he : starEach (e :: es) X.env = (false, eval e X.env) :: starEach es X.env := by rfl) (hpl : (backTo pos (starEach es X.env)).any (·.1) = false := by rfl) :
    PE X (.Call (.Name x p) (e :: es) [] pos) (tCall sp [] E t) := by
  obtain ⟨f, fd, ps, F, hm, kp, b⟩ := c.ex
  exact pe_call F (hr.mono hk) hg hm kp b .nil hx ha hdb he hpl
theorem pe_kX (c : MakX X.prog X.w X.K X.mg X.base k x C sp) (hr : Room j X.A) (hk : k + 1 ≤ j) (hg : Gl X x) (hx : Passes (L2.CX X.prog X.w) X E) (ha : PA X (e :: es) t)
    (hdb : (x == ("__debug__" : Str)) = false := by decide) (he : starEach (e :: es) X.env = (false, eval e X.env) :: starEach es X.env := by rfl) (hpl : (backTo pos (starEach es X.env)).any (·.1) = false := by rfl) :
    PE X (.Call (.Name x p) (e :: es) [] pos) (tMake C sp [] E t) := by
  obtain ⟨f, fd, ps, M, F, hm, b⟩ := c.ex
  exact pe_make M F (hr.mono hk) hg hm b .nil hx ha hdb he hpl
theorem pe_mX {pl : Sem Bool} (c : MetX X.prog X.w X.K X.mg X.base k C m sp) (hr : Room j X.A) (hk : k ≤ j) (hx : Passes (L2.CX X.prog X.w) X E) (he : PE X o ta) (ha : PA X (e :: es) t)
    (hst : starEach (e :: es) X.env = (false, eval e X.env) :: starEach es X.env := by rfl) (hpl : (backTo pos (starEach es X.env)).any (·.1) = false := by rfl)
    (ht : eval (.Call (.Attribute o m apos) (e :: es) [] pos) X.env = (do
      let ov ← eval o X.env
      standAt apos.atName
      let (f, first) ← holding [ov] (getMethod ov m pl)
      callWith pos f first (backTo pos (starEach (e :: es) X.env)) (backToKw pos (keywordEach [] X.env))) := by rfl) :
    PE X (.Call (.Attribute o m apos) (e :: es) [] pos) (tMeth C m sp [] E ta t) := by
  obtain ⟨f, fd, ps, hc, hm, F, b⟩ := c.ex
  exact pe_meth (pl := pl) he hc hm F (hr.mono hk) b .nil hx ha hst hpl ht
/-- what a def's body lets out is the def's wish -/
theorem lets {tk : Takes X fun cls d _ H => E cls d H} : Passes (L2.CX X.prog X.w) X E := passes_call tk fun _ _ _ _ h => h
end
section
variable {K : PySem.W.Frag} {σ : L2.St} {H : Hp} {D : Ends} {c : Value} {ts : Addr → Value → Option Addr → TS} {Wout : WX} {tb : WX → TS}
end
end G57
end
section
set_option maxRecDepth 100000
set_option maxHeartbeats 4000000
/-! XKwExc: C(k = v, ..) raised, C an own exception class whose __init__ has keyword-only parameters. -/
namespace PySem
namespace KWX
open PySem.W PySem.Calls PyProof.Rows PySem.HandSPX
section
variable {M : Model} {A : Around} {E : Value → Shared → Prop} {h : Heap} {g : Array GenState} {d : Drawn} {t : Nat} {os : OsState}
variable {nm q : Str} {C N : Addr} {bs bm bmB : List Value} {hdct : Bool} {sn : List Str} {sub : List Value} {ab : Bool} {col : Option Bool} {dd : Option Addr} {k0 k1 k2 k3 k5 : Option Value} {B newId initId : String}
theorem check_new_kw (F : ExcBaseFacts B newId initId bmB) (same : ∀ X : String, bm.contains (.type X) = bmB.contains (.type X)) {kw : List (Str × Value)} {Q : Unit → Shared → Prop}
    (hC : h.get? C = some (excClassObj nm q C N bs bm hdct sn sub ab col dd k0 k1 k2 k3 k5 newId)) (fin : Q () ⟨h, g, d, t, os⟩) : wpAny M A (checkBuiltinCall newId ⟨[.ref C], kw⟩) Q E ⟨h, g, d, t, os⟩ := by
  have inB : (Value.ref C :: bm).contains (.type B) = true := by
    rw [List.contains_cons, same, F.hasB]
    exact Bool.or_true _
  have star := F.noStar
  simp only [checkBuiltinCall, F.newKind, F.newSplit, F.newRow]
  repeat (first
    | refine wpAny_loadPart_at hC ?_
    | (refine wpAny_isSubtype_exc hC ?_; rw [inB])
    | refine wpAny_staticBase_exc hC ?_
    | refine wpAny_madeBy_exc hC ?_
    | simp only [bne_self_eq_false, Bool.false_eq_true, if_false]
    | wp_step)
  exact fin
end
section
variable {prog : Program} {w : World} {A : Around} {E : Value → Shared → Prop} {R : Result → Shared → Prop} {h : Heap} {g : Array GenState} {d : Drawn} {t : Nat} {os : OsState}
variable {nm q : Str} {C N : Addr} {bs bm bmB : List Value} {hdct : Bool} {sn : List Str} {sub : List Value} {ab : Bool} {col : Option Bool} {dd : Option Addr} {k0 k1 k2 k3 k5 : Option Value} {B newId initId : String} {kw : List (Str × Value)}
theorem new_kw (F : ExcBaseFacts B newId initId bmB) (same : ∀ X : String, bm.contains (.type X) = bmB.contains (.type X)) (hC : h.get? C = some (excClassObj nm q C N bs bm hdct sn sub ab col dd k0 k1 k2 k3 k5 newId))
    (fin : R (.ok (.ret (.ref (h.objs.size + 1)))) ⟨(h.push (W.kdv_tup [])).push (excO C h.objs.size), g, d, t, os⟩) : codeAny (model prog w) A (.builtin newId ⟨[.ref C], kw⟩) R ⟨h, g, d, t, os⟩ := by
  have ends := F.ends
  have inB : (Value.ref C :: bm).contains (.type B) = true := by
    rw [List.contains_cons, same, F.hasB]
    exact Bool.or_true _
  have inA : (Value.ref C :: bm).contains (.type "AttributeError") = false := by
    rw [List.contains_cons, same, F.noAttr] <;> rfl
  have inN : (Value.ref C :: bm).contains (.type "NameError") = false := by
    rw [List.contains_cons, same, F.noName] <;> rfl
  refine codeAny_builtinAt F.entry ?_
  unfold Builtin.«BaseException.__new__»
  refine wpAt_bind ?_
  show wpAt _ _ _ (stack >>= _) _ _ _
  refine wpAt_bind (wpAt_stack fun p below => wpAt_of_wpAny ?_)
  wp_walk
  refine wpAt_of_wpAny ?_
  rw [F.owner]
  repeat (first
    | with_reducible refine wpAny_madeHere_exc F.canon hC ?_
    | with_reducible refine wpAny_loadPart_at hC ?_
    | (with_reducible refine wpAny_isSubtype_exc hC ?_; first | rw [inB] | rw [inA] | rw [inN])
    | wp_step)
  show R _ _
  rw [Heap.size_push]
  exact fin
theorem type_call_kw (F : ExcBaseFacts B newId initId bmB) (same : ∀ X : String, bm.contains (.type X) = bmB.contains (.type X)) {fI : Addr} {Q : Fin → Shared → Prop} (hC : h.get? C = some (excClassObj nm q C N bs bm hdct sn sub ab col dd k0 k1 k2 k3 k5 newId))
    (hi : W.Looks (model prog w) h (typeLookup (.ref C) "__init__") (some (.ref fI))) (hb : ∀ self, W.Looks (model prog w) h (bindSpecial (.ref fI) self) (.ref fI, [self]))
    (fin : codeAny (model prog w) A (.call (.ref fI) ⟨[.ref (h.objs.size + 1)], kw⟩) (fun r s' => match r with
      | .ok (.ret v) => v = .none ∧ Q (.done (.ret (.ref (h.objs.size + 1)))) s'
      | .ok _ => False
      | .error e => E e s') ⟨(h.push (W.kdv_tup [])).push (excO C h.objs.size), g, d, t, os⟩) : wpAny (model prog w) A (Builtin.«type.__call__» ⟨[.ref C], kw⟩) Q E ⟨h, g, d, t, os⟩ := by
  repeat (first
    | with_reducible refine wpAny_loadPart_at hC ?_
    | with_reducible refine wpAny_madeBy_exc hC ?_
    | wp_step)
  refine codeAny_call_builtin_code (Code.quiet_builtin _ F.quiet) (check_new_kw F same hC ?_)
  refine new_kw F same hC ?_
  show wpAny _ _ _ _ _ _
  have keep : ∀ b o, h.get? b = some o → ((h.push (W.kdv_tup [])).push (excO C h.objs.size)).get? b = some o := fun b o e => Heap.get?_push_of_some _ (Heap.get?_push_of_some _ e)
  have hC2 := keep _ _ hC
  have made : ((h.push (W.kdv_tup [])).push (excO C h.objs.size)).get? (h.objs.size + 1) = some (excO C h.objs.size) := by heap_get
  have inC : (Value.ref C :: bm).contains (.ref C) = true := by simp
  have i1 := hi.keeps keep
  have b1 := (hb (.ref (h.objs.size + 1))).keeps keep
  unfold isInstance
  repeat (first
    | with_reducible refine wpAny_loadPart_at made ?_
    | (with_reducible refine wpAny_isSubtype_exc hC2 ?_; rw [inC])
    | wp_step)
  show wpAny _ _ (typeLookup (.ref C) _) _ _ _
  refine i1.at ?_
  refine wpAny_holding (wpAny_bind (b1.at ?_))
  refine wpAny_bind (wpAny_call (codeAny_mono fin fun r s' z => ?_))
  rcases r with e | (v | _ | _ | _) <;> first | exact z | exact z.elim | skip
  obtain ⟨rfl, z⟩ := z
  first
    | exact wpAny_pure (wpAny_pure z)
    | (wp_walk; exact z)
theorem call_kw (F : ExcBaseFacts B newId initId bmB) (same : ∀ X : String, bm.contains (.type X) = bmB.contains (.type X)) {fI : Addr} (hC : h.get? C = some (excClassObj nm q C N bs bm hdct sn sub ab col dd k0 k1 k2 k3 k5 newId))
    (hi : W.Looks (model prog w) h (typeLookup (.ref C) "__init__") (some (.ref fI))) (hb : ∀ self, W.Looks (model prog w) h (bindSpecial (.ref fI) self) (.ref fI, [self]))
    (fin : codeAny (model prog w) (A.under (.builtin "type.__call__" ⟨[.ref C], kw⟩)) (.call (.ref fI) ⟨[.ref (h.objs.size + 1)], kw⟩) (W.InitBack (h.objs.size + 1) R) ⟨(h.push (W.kdv_tup [])).push (excO C h.objs.size), g, d, t, os⟩) :
    codeAny (model prog w) A (.call (.ref C) ⟨[], kw⟩) R ⟨h, g, d, t, os⟩ := by
  have f1 := tc_lookup
  have f2 := tc_bind (.ref C)
  have isT : (⟨h, g, d, t, os⟩ : Shared).TypeIs (.ref C) "type" := ⟨_, hC, rfl⟩
  refine codeAny_of_tree ?_
  show wpAny _ _ (callAny (.ref C) _) _ _ _
  repeat (any_goals (first
    | assumption
    | with_reducible refine wpAny_loadPart_at hC ?_
    | wp_step))
  refine ⟨rfl, ?_⟩
  refine codeAny_call_builtin_at (Code.quiet_builtin _ (by decide +kernel)) entry_typeCall (wpAny_check_type_call_sub hC (type_call_kw F same hC hi hb ?_))
  refine codeAny_mono fin fun r s' z => ?_
  rcases r with e | (v | _ | _ | _) <;> exact z
end
end KWX
end PySem
namespace G57
open PySem PySem.Spec PyProof.Rows L2
/-- C(k = v, ..), an exception with an own __init__ that keeps sp -/
def tMkK (C : Addr) (m : Nat) (sp : Sp) (gV : List V → List V → List V) (tk : TA) : L2.St → Hp → XK → Prop := fun σ H Q => tk σ H fun zs H1 => zs.length = m ∧ ∀ a, H1 a = none → sp (gV [.ref a] zs) (upd H1 a (exo a C none))
  (fun v H2 => v = .non ∧ ∃ (d : Addr) (fs : List (Str × V)), H2 a = some (exo a C (some d)) ∧ H2 d = some (exd d fs) ∧ H1 d = none ∧ Q (.ref C) (some d) (upd (L2.del H2 a) d (.xd fs))) fun _ _ _ => False
theorem pmk_kw {X : Cx} {CX : CXT} {x : Str} {C fI : Addr} {k : Nat} {fd : FuncData} {ps ks : List Str} {sp : Sp} {kws : List Keyword} {tk : TA} {g : List Value → List Value → List Value} {gV : List V → List V → List V} {p pos : Pos}
    (T : OexC X.K C) (iC : PySem.W.findIn X.K (.ref C) "__init__" = some (some (.ref fI))) (tI : PySem.W.typeIn X.K (.ref fI) = some (.type "function")) (F1 : FnOk X.prog X.w X.K X.mg X.base CX k fI fd ps sp) (hr : Room (k + 1) X.A) (hb : KBn X.K fd ps 1 ks g gV)
    (hx : Passes CX X (fun _ _ _ => False)) (hg : Gl X x) (hm : X.mg x = some (.ref C)) (hkw : PK X kws tk)
    (hall : (backToKw pos (keywordEach kws X.env)).all (·.1.isSome) = true := by rfl) (hks : (backToKw pos (keywordEach kws X.env)).filterMap (·.1) = ks := by rfl) (hdb : (x == ("__debug__" : Str)) = false := by decide)
    (hpl : ((backTo pos (starEach [] X.env)).any (·.1) || (backToKw pos (keywordEach kws X.env)).any (·.1.isNone)) = false := by rfl) : PMk X (.Call (.Name x p) [] kws pos) (tMkK C ks.length sp gV tk) := by
  intro pins s σ H Q I h
  obtain ⟨nm, q, N, bs, bm, sn, sub, ab, col, dd, k0, k1, k2, k3, k5, hC, hbm⟩ := T.cls
  refine wpAny_Call_Name_kw (ld_glob I hg hm ?_ hdb)
  refine PySem.W.callWith_KW0 (h₀ := X.base) I.ok.mod.kin T.kC hall ?_ hpl
  refine thn (hkw.run pos pins s σ H _ I h) fun ws s1 ⟨zs, H1, I1, rz, l2, q1⟩ => ⟨I1.kIn, ?_⟩
  rw [hks]
  obtain ⟨hp, gn, dr, tok, os⟩ := s1
  have le : hp.objs.size ≤ hp.objs.size + 1 := Nat.le_succ _
  have new : H1 (hp.objs.size + 1) = none := I1.hok.fresh le
  have told := q1 (hp.objs.size + 1) new
  have keep : ∀ b o, hp.get? b = some o → ((hp.push (PySem.W.kdv_tup [])).push (PySem.HandSPX.excO C hp.objs.size)).get? b = some o := fun b o e => Heap.get?_push_of_some _ (Heap.get?_push_of_some _ e)
  have made : ((hp.push (PySem.W.kdv_tup [])).push (PySem.HandSPX.excO C hp.objs.size)).get? (hp.objs.size + 1) = some (PySem.HandSPX.excO C hp.objs.size) := by heap_get
  have I2 : Inv X pins σ (upd H1 (hp.objs.size + 1) (exo (hp.objs.size + 1) C none)) ⟨(hp.push (PySem.W.kdv_tup [])).push (PySem.HandSPX.excO C hp.objs.size), gn, dr, tok, os⟩ :=
    I1.laid (t' := tok) (a := hp.objs.size + 1) (o := exo (hp.objs.size + 1) C none) (h' := (hp.push (PySem.W.kdv_tup [])).push (PySem.HandSPX.excO C hp.objs.size)) keep le (exo_ok made)
  have r1 : Vals [V.ref (hp.objs.size + 1)] [Value.ref (hp.objs.size + 1)] := .cons rfl .nil
  have r2 := hb.rel r1 rz
  refine wpAny_call (PySem.KWX.call_kw F.excBase_ValueError (fun Y => PySem.HandSPX.refsVE_contains Y bm hbm) (I1.kIn _ _ hC) (PySem.W.looks_findIn I1.kIn iC) (fun self => PySem.W.bind_fn I1.kIn self tI)
    (codeAny_mono (F1.run _ X.stack _ _ ⟨[Value.ref (hp.objs.size + 1)], ks.zip ws⟩ (g [Value.ref (hp.objs.size + 1)] ws) _ _ (fun _ _ _ => False) (hr.make C [] (ks.zip ws)) (I2.env0.make C [] (ks.zip ws)) (hb.to _ [Value.ref (hp.objs.size + 1)] ws I2.kIn rfl (rz.length.symm.trans l2)) r2 told) fun r s' hq => ?_))
  cases r with
  | error er => exact hx pins σ _ _ er s' I2 hq
  | ok fl =>
    cases fl with
    | ret u =>
      obtain ⟨v, H2, os2, bare2, un2, hok2, rv, ev, d, fs, ea, ed, hd1, q2⟩ := hq
      subst ev
      obtain ⟨h2, g2, d2, t2, os3⟩ := s'
      exact ⟨rv, mk_end (raises_own T.exC T.tyC) I1 le keep un2 hok2 os2 bare2 ea ed hd1 q2⟩
    | next => exact False.elim hq
    | brk => exact False.elim hq
    | cont => exact False.elim hq
/-- L.__init__(self, ..), L an own class over ValueError without own __init__ -/
def tVeL (K : PySem.W.Frag) (CL : Addr) (ta : TE) (t : TA) : TE := fun σ H Q => ta σ H fun x H1 => x = .ref CL ∧ t σ H1 fun vs H2 => ∃ (a C : Addr) (ws : List V), vs = .ref a :: ws ∧ ws.length ≤ 1000 ∧ OexC K C ∧ H2 a = some (exo a C none) ∧ Q .non H2
theorem pe_linit {X : Cx} {CL : Addr} {mc : Value} {o e : Expr} {es : List Expr} {pos apos : Pos} {ta : TE} {t : TA} {pl : Sem Bool} (he : PE X o ta) (r : ClX.CRead X.K CL mc) (vL : PySem.W.findCls X.K (.ref CL) mc "__init__" = some (.val (.builtin "ValueError.__init__"))) (ha : PA X (e :: es) t)
    (hst : starEach (e :: es) X.env = (false, eval e X.env) :: starEach es X.env := by rfl) (hpl : (backTo pos (starEach es X.env)).any (·.1) = false := by rfl)
    (ht : eval (.Call (.Attribute o "__init__" apos) (e :: es) [] pos) X.env = (do
      let ov ← eval o X.env
      standAt apos.atName
      let (f, first) ← holding [ov] (getMethod ov "__init__" pl)
      callWith pos f first (backTo pos (starEach (e :: es) X.env)) (backToKw pos (keywordEach [] X.env))) := by rfl) : PE X (.Call (.Attribute o "__init__" apos) (e :: es) [] pos) (tVeL X.K CL ta t) := by
  refine ⟨fun pins s σ H Q I h => ?_⟩
  refine PySem.W.methodCall_KW (pl := pl) (thn (he.run pins s σ H _ I h) fun u s1 ⟨x, H1, I1, rx, ex, q⟩ => ?_) ht
  subst ex
  obtain rfl : u = Value.ref CL := rx
  refine PySem.W.method_cls I1.kIn r.ga (PySem.W.cls_value I1.kIn r.rd vL (by decide +kernel) ?_)
  show wpAny _ _ (callWith pos (Value.builtin "ValueError.__init__") [] (backTo pos (starEach (e :: es) X.env)) []) _ _ _
  refine PyProof.Rows.callWith_method1 (thn (ha.run pos pins _ σ H1 _ (I1.tok _) q) fun us s2 ⟨vs, H2, I2, r1, a, C, ws, ev, hl, T, ea, q2⟩ => ?_) hst hpl
  subst ev
  cases r1 with
  | @cons _ u0 _ ur ra rest =>
    obtain rfl : u0 = Value.ref a := ra
    have len : ur.length ≤ sizeLine := by
      rw [← rest.length, sizeLine_eq]
      omega
    exact oinit_ok T I2 ea len fun s3 J => ⟨.non, H2, J, rfl, q2⟩
end G57
end
section
set_option maxRecDepth 100000
set_option maxHeartbeats 4000000
/-! XErr: own exception classes with a keyword-only __init__: the header's facts, raise, the suite's reading. -/
namespace G57
open PySem PySem.Spec PyProof.Rows L2
/-! ### facts -/
def clsB (K : PySem.W.Frag) (C : Addr) : Bool := match K.lookup C with
  | some ⟨.type "type", _, .cls cd, sl⟩ => (match cd.mro, sl.toList with
    | .ref C' :: bm, [_, _, _, _, some (.builtin n), _] => (C' == C && n == "ValueError.__new__") && (!cd.hasDel && (cd.hasDict && PySem.HandSPX.refsVE bm))
    | _, _ => false)
  | _ => false
theorem clsB_ok {K : PySem.W.Frag} {C : Addr} (h : clsB K C = true) : ∃ nm q N bs bm sn sub ab col dd k0 k1 k2 k3 k5, K.lookup C = some (excClassObj nm q C N bs bm true sn sub ab col dd k0 k1 k2 k3 k5 "ValueError.__new__") ∧ PySem.HandSPX.refsVE bm = true := by
  unfold clsB at h
  split at h
  · rename_i dd cd sl ho
    split at h
    · rename_i C' bm k0 k1 k2 k3 n k5 hm hs
      simp only [Bool.and_eq_true, beq_iff_eq, Bool.not_eq_true'] at h
      obtain ⟨⟨rfl, rfl⟩, hdel, hdct, hr⟩ := h
      obtain ⟨nm, bs, mro, ns, qn, hd, sn, sub, ab, col, del⟩ := cd
      dsimp only at hm hdel hdct
      subst hm hdel hdct
      have hsl : sl = #[k0, k1, k2, k3, some (.builtin "ValueError.__new__"), k5] := by
        obtain ⟨l⟩ := sl
        simp only at hs
        rw [hs]
      subst hsl
      exact ⟨nm, qn, ns, bs, bm, sn, sub, ab, col, dd, k0, k1, k2, k3, k5, ho, hr⟩
    · cases h
  · cases h
/-- a class of exceptions with an own __init__ -/
def oexB (x : Str) : Ex := fun K =>
  clsB K (He.ga K x) && (He.eqO (PySem.W.findIn K (.ref (He.ga K x)) "__setattr__") (some (some (.builtin "object.__setattr__"))) && (decide (PySem.W.subIn K (.ref (He.ga K x)) (.type "BaseException") = some true) && (decide (PySem.W.typeIn K (.ref (He.ga K x)) = some (.type "type")) && (PySem.W.keepIn K (.ref (He.ga K x)) &&
  (He.eqO (PySem.W.findIn K (.ref (He.ga K x)) "__init__") (some (some (.ref (He.ma K (He.ga K x) "__init__")))) && (decide (PySem.W.typeIn K (.ref (He.ma K (He.ga K x) "__init__")) = some (.type "function")) && xfB K (He.ga K x)))))))
structure Oex (K : PySem.W.Frag) (x : Str) : Prop where
  t : OexC K (He.ga K x)
  i : PySem.W.findIn K (.ref (He.ga K x)) "__init__" = some (some (.ref (He.ma K (He.ga K x) "__init__")))
  f : PySem.W.typeIn K (.ref (He.ma K (He.ga K x) "__init__")) = some (.type "function")
  x : XfC K (He.ga K x)
theorem oex_ok {K : PySem.W.Frag} {x : Str} (h : oexB x K = true) : Oex K x := by
  obtain ⟨h1, h⟩ := He.ba h
  obtain ⟨h2, h⟩ := He.ba h
  obtain ⟨h3, h⟩ := He.ba h
  obtain ⟨h4, h⟩ := He.ba h
  obtain ⟨h5, h⟩ := He.ba h
  obtain ⟨h6, h⟩ := He.ba h
  obtain ⟨h7, h8⟩ := He.ba h
  exact ⟨⟨clsB_ok h1, He.eqO_ok h2, of_decide_eq_true h3, of_decide_eq_true h4, h5⟩, He.eqO_ok h6, of_decide_eq_true h7, xfB_ok h8⟩
/-- a field that is no attribute of the class -/
def xnaB (x f : Str) : Ex := fun K => He.eqO (PySem.W.findIn K (.ref (He.ga K x)) f) (some none)
theorem xna_ok {K : PySem.W.Frag} {x f : Str} (h : xnaB x f K = true) : PySem.W.findIn K (.ref (He.ga K x)) f = some none := He.eqO_ok h
/-- the base class's __init__ -/
def linB (x : Str) : Ex := fun K =>
  PySem.W.readsIn K (He.ga K x) (.type "type") && (He.eqO (PySem.W.specialIn K (.ref (He.ga K x)) "__getattribute__") (some (some (.builtin "type.__getattribute__"))) &&
  (match PySem.W.findCls K (.ref (He.ga K x)) (.type "type") "__init__" with
  | some (.val (.builtin n)) => n == "ValueError.__init__"
  | _ => false))
theorem lin_ok {K : PySem.W.Frag} {x : Str} (h : linB x K = true) : ClX.CRead K (He.ga K x) (.type "type") ∧ PySem.W.findCls K (.ref (He.ga K x)) (.type "type") "__init__" = some (.val (.builtin "ValueError.__init__")) := by
  unfold linB at h
  obtain ⟨z1, h⟩ := He.ba h
  obtain ⟨z2, h⟩ := He.ba h
  refine ⟨⟨z1, He.eqO_ok z2⟩, ?_⟩
  split at h
  · rename_i n e
    obtain rfl : n = "ValueError.__init__" := by simpa using h
    exact e
  · cases h
/-- isinstance of its instances -/
def eisB (x : Str) : Ex := fun K =>
  He.eqO (PySem.W.findIn K (.ref (He.ga K x)) "__getattribute__") (some (some (.builtin "BaseException.__getattribute__"))) && (He.eqO (PySem.W.findIn K (.ref (He.ga K x)) "__getattr__") (some none) && (decide (PySem.W.subIn K (.ref (He.ga K x)) (.type "BaseException") = some true) && (PySem.W.hasDictIn K (He.ga K x) &&
  (He.eqO (PySem.W.findIn K (.ref (He.ga K x)) "__class__") (some (some (.builtin "object.__class__"))) && (He.eqO (PySem.W.specialIn K (.builtin "object.__class__") "__get__") (some (some (.builtin "getset_descriptor.__get__"))) && (decide (PySem.W.takesIn K (.builtin "object.__class__") = some true) && decide (PySem.W.mroIn K (He.ga K x) (.type "object") = some true)))))))
theorem eis_ok {K : PySem.W.Frag} {x : Str} (h : eisB x K = true) : ExcC K (He.ga K x) := by
  obtain ⟨h1, h⟩ := He.ba h
  obtain ⟨h2, h⟩ := He.ba h
  obtain ⟨h3, h⟩ := He.ba h
  obtain ⟨h4, h⟩ := He.ba h
  obtain ⟨h5, h⟩ := He.ba h
  obtain ⟨h6, h⟩ := He.ba h
  obtain ⟨h7, h8⟩ := He.ba h
  exact ⟨He.eqO_ok h1, He.eqO_ok h2, of_decide_eq_true h3, h4, He.eqO_ok h5, He.eqO_ok h6, of_decide_eq_true h7, of_decide_eq_true h8⟩
def kisB (x y : Str) (b : Bool) : Ex := fun K => decide (PySem.W.kitOne K (.ref (He.ga K x)) (.ref (He.ga K y)) = some b)
def kisTB (x : Str) (y : String) (b : Bool) : Ex := fun K => decide (PySem.W.kitOne K (.ref (He.ga K x)) (.type y) = some b)
/-! ### the binding of keyword-only parameters -/
section
variable {P : Program} {w : World} {K : PySem.W.Frag} {mg : Str → Option Value} {base : Heap}
abbrev KBindA (x qual : Str) (pa : Arguments) (bd : List Stmt) (sc : Scope) (ps ks : List Str) : Prop := ∀ (kV doc pm : Value) (an : Option Addr) (cdv ct : Value) (us ws : List Value), us.length = 1 → ws.length = ks.length → bindArgs (PySem.W.fnOf x qual pa bd sc .none kV doc pm an cdv ct) ⟨us, ks.zip ws⟩ = pure (ps.zip (us ++ ws))
theorem kbn_of {d : DefA} {f : Addr} {fd : FuncData} {ps ks : List Str} (F : FunD K d.name d.qual d.params d.body d.scope [] (d.kws K) f fd) (b : KBindA d.name d.qual d.params d.body d.scope ps ks) : KBn K fd ps 1 ks (fun us ws => us ++ ws) (fun vs zs => vs ++ zs) := by
  obtain ⟨oc, od, kV, doc, pm, an, cdv, ct, osl, rfl, lk, hcd⟩ := fun_of F
  refine ⟨fun s us ws X l1 l2 => BindsTo.of_looks fun M => ?_, fun r1 r2 => r1.append r2⟩
  rw [b kV doc pm an cdv ct us ws l1 l2]
  exact .now
/-- an own exception class, made with keywords -/
structure XMak (P : Program) (w : World) (K : PySem.W.Frag) (mg : Str → Option Value) (base : Heap) (k : Nat) (x : Str) (ks : List Str) (sp : Sp) : Prop where
  ex : ∃ (fd : FuncData) (ps : List Str), Oex K x ∧ FnOk P w K mg base (L2.CX P w) k (He.ma K (He.ga K x) "__init__") fd ps sp ∧ KBn K fd ps 1 ks (fun us ws => us ++ ws) (fun vs zs => vs ++ zs)
theorem xmak_of {d : DefA} {C : Str} {N ps ks : List Str} {k : Nat} {sp : Sp} (F : ∃ fd, d.Fn K fd) (hp : d.path = pM C "__init__") (hd : d.dfl = []) (O : Oex K C) (S : FnScope N ps d.scope)
    (b : KBindA d.name d.qual d.params d.body d.scope ps ks) (len : ∀ vs H Q E, sp vs H Q E → vs.length = ps.length) (hb : BodyX P w K mg base N d (He.ma K (He.ga K C) "__init__") k sp) : XMak P w K mg base (k + 1) C ks sp := by
  obtain ⟨fd, F⟩ := fd_at F hp hd
  exact ⟨fd, ps, O, fnx_of F S len hb, kbn_of F b⟩
/-- what such an __init__ of two, of one parameter does -/
def spX2 (K : PySem.W.Frag) (C f1 f2 : Str) : Sp := fun vs H Q _ => ∃ (a : Addr) (v1 v2 : V), vs = [.ref a, v1, v2] ∧ H a = some (exo a (He.ga K C) none) ∧ ∀ d, H d = none → d ≠ a → Q .non (upd (upd (upd H d (exd d [(f1, v1)])) a (exo a (He.ga K C) (some d))) d (exd d [(f2, v2), (f1, v1)]))
def spX1 (K : PySem.W.Frag) (C f1 : Str) : Sp := fun vs H Q _ => ∃ (a : Addr) (v1 : V), vs = [.ref a, v1] ∧ H a = some (exo a (He.ga K C) none) ∧ ∀ d, H d = none → d ≠ a → Q .non (upd (upd H d (exd d [(f1, v1)])) a (exo a (He.ga K C) (some d)))
end
/-! ### raise C(k = v, ..) -/
def tRzK (C : Addr) (m : Nat) (sp : Sp) (tk : TA) (E : XK) : TS := fun _ σ H => tMkK C m sp (fun vs zs => vs ++ zs) tk σ H E
theorem ps_rzk {X : Cx} {x : Str} {k j m : Nat} {ks : List Str} {sp : Sp} {kws : List Keyword} {tk : TA} {p pos pos' : Pos} {E : XK} {E1 : Value → Shared → Prop} (hc : X.calm = true) (hs : X.stack = X.env :: X.outer) (hf : X.env.frame = some X.env.locals) (hex : X.ex = [])
    (hx : X.xe = fun e s' => wpAny (model X.prog X.w) X.A (leaving X.env e) (fun _ s'' => L2.CX X.prog X.w X.outer X.H_0 X.s_0 E e s'') E1 s')
    (c : XMak X.prog X.w X.K X.mg X.base k x ks sp) (hr : Room j X.A) (hk : k + 1 ≤ j) (gC : X.mg x = some (.ref (He.ga X.K x))) (hg : Gl X x) (hkw : PK X kws tk)
    (hall : (backToKw pos (keywordEach kws X.env)).all (·.1.isSome) = true := by rfl) (hks : (backToKw pos (keywordEach kws X.env)).filterMap (·.1) = ks := by rfl) (hm : ks.length = m := by rfl) (hdb : (x == ("__debug__" : Str)) = false := by decide)
    (hpl : ((backTo pos (starEach [] X.env)).any (·.1) || (backToKw pos (keywordEach kws X.env)).any (·.1.isNone)) = false := by rfl) : PS X (.Raise (some (.Call (.Name x p) [] kws pos)) none pos') (tRzK (He.ga X.K x) m sp tk E) := by
  obtain ⟨fd, ps, O, F, hb⟩ := c.ex
  subst hm
  have tk' := takes_of hs hf hex hx
  exact ps_raise hc tk' (pmk_kw O.t O.i O.f F (hr.mono hk) hb (passes_call tk' fun _ _ _ _ h => h.elim) hg gC hkw hall hks hdb hpl)
theorem r_rzk {C : Addr} {m : Nat} {sp : Sp} {tk : TA} {E : XK} {D : Ends} {σ : L2.St} {H : Hp} (q : tk σ H fun zs H1 => zs.length = m ∧ ∀ a, H1 a = none → sp ([.ref a] ++ zs) (upd H1 a (exo a C none))
  (fun v H2 => v = .non ∧ ∃ (d : Addr) (fs : List (Str × V)), H2 a = some (exo a C (some d)) ∧ H2 d = some (exd d fs) ∧ H1 d = none ∧ E (.ref C) (some d) (upd (L2.del H2 a) d (.xd fs))) fun _ _ _ => False) : tRzK C m sp tk E D σ H := q
theorem a_rzk2 {K : PySem.W.Frag} {C f1 f2 : Str} {v1 v2 : V} {H : Hp} {Q : XK} (q : ∀ d, H d = none → Q (.ref (He.ga K C)) (some d) (upd H d (.xd [(f2, v2), (f1, v1)]))) :
    [v1, v2].length = 2 ∧ ∀ a, H a = none → spX2 K C f1 f2 ([V.ref a] ++ [v1, v2]) (upd H a (exo a (He.ga K C) none))
  (fun v H2 => v = .non ∧ ∃ (d : Addr) (fs : List (Str × V)), H2 a = some (exo a (He.ga K C) (some d)) ∧ H2 d = some (exd d fs) ∧ H d = none ∧ Q (.ref (He.ga K C)) (some d) (upd (L2.del H2 a) d (.xd fs))) fun _ _ _ => False := by
  refine ⟨rfl, fun a ha => ⟨a, v1, v2, rfl, upd_same, fun d hd hn => ?_⟩⟩
  have hd' : H d = none := by rw [upd_ne hn] at hd; exact hd
  refine ⟨rfl, d, _, ?_, upd_same, hd', ?_⟩
  · rw [upd_ne (Ne.symm hn), upd_same]
  · have e : upd (L2.del (upd (upd (upd (upd H a (exo a (He.ga K C) none)) d (exd d [(f1, v1)])) a (exo a (He.ga K C) (some d))) d (exd d [(f2, v2), (f1, v1)])) a) d (.xd [(f2, v2), (f1, v1)]) = upd H d (.xd [(f2, v2), (f1, v1)]) := by
      funext b
      by_cases e : b = d
      · rw [e, upd_same, upd_same]
      · rw [upd_ne e, upd_ne e]
        by_cases e2 : b = a
        · rw [e2, del_same, ha]
        · rw [del_ne e2, upd_ne e, upd_ne e2, upd_ne e, upd_ne e2]
    rw [e]
    exact q d hd'
theorem a_rzk1 {K : PySem.W.Frag} {C f1 : Str} {v1 : V} {H : Hp} {Q : XK} (q : ∀ d, H d = none → Q (.ref (He.ga K C)) (some d) (upd H d (.xd [(f1, v1)]))) :
    [v1].length = 1 ∧ ∀ a, H a = none → spX1 K C f1 ([V.ref a] ++ [v1]) (upd H a (exo a (He.ga K C) none))
  (fun v H2 => v = .non ∧ ∃ (d : Addr) (fs : List (Str × V)), H2 a = some (exo a (He.ga K C) (some d)) ∧ H2 d = some (exd d fs) ∧ H d = none ∧ Q (.ref (He.ga K C)) (some d) (upd (L2.del H2 a) d (.xd fs))) fun _ _ _ => False := by
  refine ⟨rfl, fun a ha => ⟨a, v1, rfl, upd_same, fun d hd hn => ?_⟩⟩
  have hd' : H d = none := by rw [upd_ne hn] at hd; exact hd
  refine ⟨rfl, d, _, upd_same, by rw [upd_ne hn, upd_same], hd', ?_⟩
  have e : upd (L2.del (upd (upd (upd H a (exo a (He.ga K C) none)) d (exd d [(f1, v1)])) a (exo a (He.ga K C) (some d))) a) d (.xd [(f1, v1)]) = upd H d (.xd [(f1, v1)]) := by
    funext b
    by_cases e : b = d
    · rw [e, upd_same, upd_same]
    · rw [upd_ne e, upd_ne e]
      by_cases e2 : b = a
      · rw [e2, del_same, ha]
      · rw [del_ne e2, upd_ne e2, upd_ne e, upd_ne e2]
  rw [e]
  exact q d hd'
theorem r_ost {K : PySem.W.Frag} {f : Str} {to te : TE} {D : Ends} {σ : L2.St} {H : Hp} (q : te σ H fun y H1 => to σ H1 fun x H2 => ∃ a C : Addr, x = .ref a ∧ OexC K C ∧ PySem.W.findIn K (.ref C) f = some none ∧
  ((H2 a = some (exo a C none) ∧ ∀ dx, H2 dx = none → dx ≠ a → D.nx σ (upd (upd H2 dx (exd dx [(f, y)])) a (exo a C (some dx)))) ∨
    ∃ (dx : Addr) (fs : List (Str × V)), H2 a = some (exo a C (some dx)) ∧ H2 dx = some (exd dx fs) ∧ fs.length ≤ 900 ∧ D.nx σ (upd H2 dx (exd dx ((f, y) :: fs))))) : tOst K f to te D σ H := q
/-! ### two ways at once -/
def tTwo (t1 t2 : TE) : TE := fun σ H Q => t1 σ H Q ∨ t2 σ H Q
theorem pe_two {X : Cx} {e : Expr} {t1 t2 : TE} (h1 : PE X e t1) (h2 : PE X e t2) : PE X e (tTwo t1 t2) :=
  ⟨fun pins s σ H Q I h => h.elim (h1.run pins s σ H Q I) (h2.run pins s σ H Q I)⟩
theorem r_two1 {t1 t2 : TE} {σ : L2.St} {H : Hp} {Q : VK} (q : t1 σ H Q) : tTwo t1 t2 σ H Q := .inl q
theorem r_two2 {t1 t2 : TE} {σ : L2.St} {H : Hp} {Q : VK} (q : t2 σ H Q) : tTwo t1 t2 σ H Q := .inr q
/-! ### isinstance of an error that has its dict -/
section
open PySem.W PySem.Calls
variable {prog : Program} {w : World} {A : Around} {E : Value → Shared → Prop} {s : Shared} {K : PySem.W.Frag} {x D : Addr} {ox : Obj} {od : Option Obj}
theorem find_clsD (C : ExcC K D) : PySem.W.findObj K D od "__class__" = some (.bind (.builtin "getset_descriptor.__get__") (.builtin "object.__class__")) := by
  obtain ⟨cd, hc, _⟩ := any_some C.hd
  unfold PySem.W.findObj
  rw [hc, Option.bind_some, C.ha, Option.bind_some]
  simp [C.hn, C.ht]
theorem kin_clsD {Q : Option Value → Shared → Prop} (C : ExcC K D) (X : K.In s.heap) (I : PySem.W.InstAt s.heap x ox D od) (h : Q (some (.ref D)) { s with toks := s.toks + 1 }) : wpAny (model prog w) A (getAttr? (.ref x) "__class__") Q E s := by
  obtain ⟨hp, g, d, t, os⟩ := s
  have T0 := I.type (M := model prog w); have T1 := looks_findIn (M := model prog w) X C.hg; have T2 := looks_findIn (M := model prog w) X C.hk; have T3 := looks_find (M := model prog w) X I (find_clsD C)
  have isB : Looks (model prog w) hp (isInstance (.ref x) (.type "BaseException")) true := T0.andThen (looks_subIn X C.hs)
  have q0 : (false && onTheHeap (Value.builtin "BaseException.__getattribute__")) = false := rfl
  have q1 : (onTheHeap (Value.ref D) && Value.builtin "BaseException.__getattribute__" == Value.builtin "object.__getattribute__") = false := by rw [show (Value.builtin "BaseException.__getattribute__" == Value.builtin "object.__getattribute__") = false from by decide +kernel]; exact Bool.and_false _
  unfold getAttr? getAttrBy? getAttrBy
  refine wpAny_bind (wpAny_mkText (wpAny_bind (wpAny_attempt (wpAny_holding (wpAny_bind (T0.at (wpAny_bind (T1.at ?_))))))))
  show wpAny _ _ (if (onTheHeap (Value.ref D) && Value.builtin "BaseException.__getattribute__" == Value.builtin "object.__getattribute__") = true then _ else _) _ _ _
  rw [q1, if_neg Bool.false_ne_true]; unfold getAttrByItsOwn hookBefore
  refine wpAny_bind ?_; rw [if_pos (show onTheHeap (Value.ref D) = true from rfl)]
  refine T2.at ?_; refine wpAny_bind (wpAny_attempt (wpAny_holding ?_)); unfold callGetattribute; rw [q0, if_neg Bool.false_ne_true]; unfold boundAndCalled
  rw [PySem.F.excAttr_ValueError.ga.bind (.ref x)]; refine wpAny_bind (wpAny_pure ?_)
  show wpAny _ _ (call (.builtin "BaseException.__getattribute__") [.ref x, .str "__class__" t]) _ _ _
  refine wpAny_call (codeAny_call_builtin PySem.F.excAttr_ValueError.ga.plain PySem.F.entry_bexc_ga (@check_slot (model prog w) _ _ ⟨hp, g, d, t + 1, os⟩ "BaseException.__getattribute__" "BaseException" "__getattribute__" (.ref x) [.str "__class__" t] [] _ (by decide +kernel) (by decide +kernel) isB (PySem.F.args_bexc_ga (.ref x) (.str "__class__" t)) ?_))
  unfold Builtin.«object.__getattribute__»
  refine wpAny_bind (wpAny_of_eq (a := ((Value.ref x : Value), [Value.str "__class__" t])) (by first | rfl | (simp only [slotArgs]; rfl)) (wpAny_bind (wpAny_pure (wpAny_bind (T0.at (wpAny_bind (T3.at ?_)))))))
  show wpAny _ _ (holding [Value.builtin "object.__class__"] (call (.builtin "getset_descriptor.__get__") [.builtin "object.__class__", .ref x, .ref D]) >>= ret) _ _ _
  refine wpAny_bind (wpAny_holding (wpAny_call (class_get (s := ⟨hp, g, d, t + 1, os⟩) (ox := ox) (od := od) X I C.hm (wpAny_pure ?_))))
  show wpAny _ _ (handedOut (.ref D)) _ _ _
  rw [handedOut_of (v := .ref D) rfl]
  first | exact wpAny_pure (wpAny_pure h) | exact wpAny_pure h | exact wpAny_pure (wpAny_bind (wpAny_pure (wpAny_pure h)))
theorem kitx_excD (C : ExcC K D) : KitX K (.ref x) (.ref D) (fun h => PySem.W.InstAt h x ox D od) where
  ty := fun _ _ _ J => J.type
  it := fun _ _ X _ => by
    obtain ⟨cd, hc, _⟩ := any_some C.hd; unfold PySem.W.clsIn at hc; split at hc
    · rename_i ho; intro _ _ _ _ k q; unfold isType loadHead; exact wpAny_bind (wpAny_loadPart (k _ _ (X _ _ ho)) (wpAny_pure q))
    · cases hc
  ne := (handS_kitx_exc (x := x) (ox := ox) C.hg C.hk C.hs C.hd C.ha C.hn C.ht C.hm).ne
  ca := fun X J k => kin_clsD C X J k
end
theorem bb_ValueError : bootBuiltins "ValueError" = some (.type "ValueError") := by decide +kernel
/-! ### in the suite -/
/-- err.f: the class's facts are asked in the reading -/
def tXfG (K : PySem.W.Frag) (a : Addr) (cls : Value) (d : Option Addr) (f : Str) (te : TE) : TE := fun σ H Q => te σ H fun x H1 => x = .ref a ∧ ∃ (C dd : Addr) (fs : List (Str × V)) (v : V), cls = .ref C ∧ XfC K C ∧ PySem.W.findIn K (.ref C) f = some none ∧ d = some dd ∧ H1 dd = some (.xd fs) ∧ fs.lookup f = some v ∧ Q v H1
theorem pe_xfG {X : Cx} {a : Addr} {oe : Obj} {cls : Value} {d : Option Addr} {pn : List (Addr × Obj)} {e : Expr} {te : TE} {pos : Pos} {n : Str}
    (hz : Zc cls d oe) (hf : ∃ vs, oe.data = .fields vs) (he : PE (X.suite a ((a, oe) :: pn)) e te) (hb : attributeBase e n X.env (eval e X.env) = eval e X.env := by rfl) :
    PE (X.suite a ((a, oe) :: pn)) (.Attribute e n pos) (tXfG X.K a cls d n te) := by
  refine ⟨fun pins s σ H Q I h => ?_⟩
  refine attr_of hb (thn (he.run pins s σ H _ I h) fun u s1 hh => ?_)
  obtain ⟨x, H1, I1, rx, ex, C, dd, fs, v, ec, T, hno, ed, ea, l, q⟩ := hh
  subst ex
  obtain rfl : u = Value.ref a := rx
  subst ec
  subst ed
  obtain ⟨ha, _⟩ := I1.pin (a, oe) (List.mem_append_left _ List.mem_cons_self)
  obtain ⟨vs, hd⟩ := hf
  have hx : ObjOk X.prog X.w H1 s1.heap dd (.xd fs) := I1.hok dd _ ea
  obtain ⟨mA, hns, hr⟩ := hx
  obtain ⟨od, ho, hl⟩ := lookIn_ns hns
  obtain ⟨u, hu, ru⟩ := RelO.some_of (v := v) (o := mA n) (by rw [← l]; exact hr n)
  have J : PySem.W.InstAt s1.heap a oe C (some od) := ⟨ha, hz.1, by unfold PySem.W.notCls; rw [hd] <;> rfl, by rw [hz.2]; exact ho⟩
  exact HandSPX.exc_get I1.kIn J T.ga T.gg T.exC (PySem.W.findObj_own T.hdC hno rfl (by rw [hl, hu])) (handed_of ru) ⟨v, H1, I1.tok _, ru, q⟩
theorem r_xf {K : PySem.W.Frag} {a : Addr} {cls : Value} {d : Option Addr} {f : Str} {te : TE} {σ : L2.St} {H : Hp} {Q : VK} (q : te σ H fun x H1 => x = .ref a ∧ ∃ (C dd : Addr) (fs : List (Str × V)) (v : V), cls = .ref C ∧ XfC K C ∧ PySem.W.findIn K (.ref C) f = some none ∧ d = some dd ∧ H1 dd = some (.xd fs) ∧ fs.lookup f = some v ∧ Q v H1) : tXfG K a cls d f te σ H Q := q
/-- isinstance(err, c) -/
def rIsG (K : PySem.W.Frag) (a : Addr) (cls : Value) (d : Option Addr) : List V → Hp → VK → Prop := fun xs H Q => ∃ (D : Addr) (c : V) (cv : Value) (b : Bool), xs = [.ref a, c] ∧ cls = .ref D ∧ ExcC K D ∧ (d = none ∨ ∃ dd fs, d = some dd ∧ H dd = some (.xd fs)) ∧ (∀ u, RelV c u → u = cv) ∧ PySem.W.kitOne K (.ref D) cv = some b ∧ Q (.bl b) H
section
variable {K : PySem.W.Frag} {a D c : Addr} {d : Option Addr} {b : Bool} {H : Hp} {Q : VK}
theorem r_isG (C : ExcC K D) (hd : d = none ∨ ∃ dd fs, d = some dd ∧ H dd = some (.xd fs)) (e : PySem.W.kitOne K (.ref D) (.ref c) = some b) (q : Q (.bl b) H) : rIsG K a (.ref D) d [.ref a, .ref c] H Q := ⟨D, .ref c, .ref c, b, rfl, rfl, C, hd, fun _ r => r, e, q⟩
theorem r_isGT {T : String} (C : ExcC K D) (hd : d = none ∨ ∃ dd fs, d = some dd ∧ H dd = some (.xd fs)) (e : PySem.W.kitOne K (.ref D) (.type T) = some b) (q : Q (.bl b) H) : rIsG K a (.ref D) d [.ref a, .ty T] H Q := ⟨D, .ty T, .type T, b, rfl, rfl, C, hd, fun _ r => r, e, q⟩
end
theorem call_isG {X : Cx} {a : Addr} {oe : Obj} {cls : Value} {d : Option Addr} {pn : List (Addr × Obj)} (hz : Zc cls d oe) (hf : ∃ vs, oe.data = .fields vs) : CallR (X.suite a ((a, oe) :: pn)) (.builtin "isinstance") (rIsG X.K a cls d) := by
  intro pins s σ H xs us Q I r h
  obtain ⟨D, c, cv, b, rfl, rfl, C, hd, hcv, e, q⟩ := h
  cases r with
  | cons rx rr =>
    cases rr with
    | cons rt rr =>
      cases rr
      cases rx
      have ec := hcv _ rt
      subst ec
      obtain ⟨hget, _⟩ := I.pin (a, oe) (List.mem_append.mpr (.inl List.mem_cons_self))
      obtain ⟨vs, hv⟩ := hf
      have J : ∃ o, PySem.W.InstAt s.heap a oe D o := by
        rcases hd with rfl | ⟨dd, fs, rfl, ed⟩
        · exact ⟨none, hget, hz.1, by unfold PySem.W.notCls; rw [hv] <;> rfl, by rw [hz.2]; trivial⟩
        · have hx : ObjOk X.prog X.w H s.heap dd (.xd fs) := I.hok dd _ ed
          obtain ⟨mA, hns, hr⟩ := hx
          obtain ⟨od, ho, hl⟩ := lookIn_ns hns
          exact ⟨some od, hget, hz.1, by unfold PySem.W.notCls; rw [hv] <;> rfl, by rw [hz.2]; exact ho⟩
      obtain ⟨o, J⟩ := J
      exact PySem.W.kia_one (kitx_excD C) I.kIn J e (fun z => nomatch z) fun tk => ⟨.bl b, H, I.kept (t' := tk) fun _ _ z => z, rfl, q⟩
/-! ### xs.count(y), flat items -/
section
variable {X : Cx}
def rCnt (K : PySem.W.Frag) : V → List V → Hp → VK → Prop := fun x xs H Q => ∃ (a : Addr) (ys : List V) (y : V), x = V.ref a ∧ xs = [y] ∧ SqL K H a ys ∧ flatV y = true ∧ ys.all flatV = true ∧ Q (.int ((ys.countP fun z => eqV z y : Nat) : Int)) H
theorem r_cntL {K : PySem.W.Frag} {a : Addr} {H : Hp} {Q : VK} {xs : List V} {y : V} {n : Nat} (h : SqL K H a xs) (fy : flatV y = true) (fx : xs.all flatV = true) (e : (xs.countP fun z => eqV z y) = n) (q : Q (.int (n : Nat)) H) : rCnt K (.ref a) [y] H Q := ⟨a, xs, y, rfl, rfl, h, fy, fx, by rw [e]; exact q⟩
theorem count_eqU {x : V} : ∀ {xs : List V} {us : List Value}, Vals xs us → xs.all flatV = true → us.countP (eqU x) = xs.countP fun y => eqV y x := by
  intro xs us r
  induction r with
  | nil => intro _; rfl
  | @cons v u vs us rv rr ih =>
    intro f
    obtain ⟨f1, f2⟩ := Bool.and_eq_true_iff.mp (show (flatV v && vs.all flatV) = true from f)
    rw [List.countP_cons, List.countP_cons, ih f2, eqU_of rv f1]
theorem mt_cntL : MtR X "list.count" (rCnt X.K) := by
  intro pins s σ H x xs v us Q I rx rxs h
  obtain ⟨a, ys, y, rfl, rfl, hs, fy, fys, q⟩ := h
  cases rx
  cases rxs with
  | cons ry rt =>
    rename_i uy ut
    cases rt
    obtain ⟨its, rv, ⟨⟨cls, dd, data, sl⟩, n, ho, hc, hdn, hd⟩, hlen⟩ := I.list hs
    simp only at hc hd
    subst hc hd
    refine call_meets PySem.F.slot_list_count ⟨_, ho, rfl⟩ PySem.F.entry_list_count (PySem.F.args_list_count_2 _ _)
      (SeqAt.list_countAt a its.toArray n dd sl uy (eqU y)) ⟨ho, fun u' hu' => mem_eqAt ry fy rv fys u' (by simpa using hu'), ?_⟩
    rw [← count_eqU rv fys] at q
    exact ⟨.int _, H, I.tok _, ⟨_, rfl⟩, q⟩
end
section
variable {X : Cx} {K : PySem.W.Frag} {o e : Expr} {es : List Expr} {to : TE} {t : TA} {name : Str} {apos cpos : Pos} {T id : String} {r : V → List V → Hp → VK → Prop}
theorem mtK {r : PySem.W.Frag → V → List V → Hp → VK → Prop} (h : X.K = K) (c : MtR X id (r X.K)) : MtR X id (r K) := h ▸ c
theorem pe_bmK (hK : X.K = K) (pa : PlainAttrs T) (slot : Slot T name id) (hty : typeOf (.builtin id) = pure (.type "method_descriptor")) (hm : MtR X id r) (ho : PE X o to) (ha : PA X (e :: es) t) (hbase : attributeBase o name X.env (eval o X.env) = eval o X.env := by rfl)
    (hfew : ((backTo cpos (starEach (e :: es) X.env)).all (fun x => !x.1) && (backToKw cpos (keywordEach [] X.env)).all (fun x => x.1.isSome) && decide ((e :: es).length + ([] : List Keyword).length + (if ([] : List Keyword).isEmpty then 0 else 1) < 30)) = true := by rfl)
    (hline : (apos.endLine == cpos.line) = true := by rfl) (hs : starEach (e :: es) X.env = (false, eval e X.env) :: starEach es X.env := by rfl) (hplain : (backTo cpos (starEach es X.env)).any (·.1) = false := by rfl) : PE X (.Call (.Attribute o name apos) (e :: es) [] cpos) (tBM K T r to t) := hK ▸ pe_bm pa slot hty hm ho ha hbase hfew hline hs hplain
end
end G57
end
section
set_option maxRecDepth 100000
set_option maxHeartbeats 4000000
/-! XTup: a module's constants: a text, a tuple of numbers. -/
namespace G57
open PySem PySem.Spec PyProof.Rows L2
def intOf : Value → Option Int
  | .int i _ => some i
  | _ => none
def tupB (x : Str) (ns : List Int) : Ex := fun K => match K.lookup (He.ga K x) with
  | some ⟨.type "tuple", _, .seq its _, _⟩ => decide (its.toList.map intOf = ns.map some) && decide (its.size ≤ 100)
  | _ => false
theorem vals_ints : ∀ {us : List Value} {ns : List Int}, us.map intOf = ns.map some → Vals (ns.map V.int) us
  | [], [], _ => .nil
  | [], _ :: _, h => by simp at h
  | _ :: _, [], h => by simp at h
  | u :: us, n :: ns, h => by
    simp only [List.map_cons, List.cons.injEq] at h
    refine .cons ?_ (vals_ints h.2)
    cases u with
    | int i t =>
      have : i = n := by
        have q := h.1
        unfold intOf at q
        exact Option.some.inj q
      subst this
      exact ⟨t, rfl⟩
    | _ => exact absurd h.1 (by unfold intOf; simp)
theorem tupB_ok {K : PySem.W.Frag} {x : Str} {ns : List Int} (h : tupB x ns K = true) (H : Hp) : SqT K H (He.ga K x) (ns.map V.int) := by
  unfold tupB at h
  split at h
  · rename_i d its n sl e
    rw [Bool.and_eq_true] at h
    have h1 := of_decide_eq_true h.1
    have h2 := of_decide_eq_true h.2
    exact .inr ⟨_, its, n, e, rfl, rfl, Nat.le_trans h2 (Nat.le_of_ble_eq_true rfl), vals_ints h1⟩
  · cases h
theorem gc_str {mg : Str → Option Value} {x z : Str} (h : ∃ t, mg x = some (.str z t)) : ∃ u, mg x = some u ∧ RelV (.str z) u :=
  let ⟨t, e⟩ := h; ⟨_, e, t, rfl⟩
end G57
end
section
set_option maxRecDepth 100000
set_option maxHeartbeats 4000000
namespace G57
open PySem PySem.Spec PyProof.Rows L2
def topS (i : Nat) : Stmt := PySem.Challenge.pw_staleloaves_k47_reports.main.body.getD i (.Pass ⟨0, 0, 0, 0⟩)
abbrev s_wall : Stmt := topS 0
abbrev s_Effect_init : Stmt := inClass (topS 2) 0
abbrev s_Effect_end : Stmt := inClass (topS 2) 1
abbrev s_Effect_missed : Stmt := inClass (topS 2) 2
abbrev s_Effect_thrown : Stmt := inClass (topS 2) 3
abbrev s_Effect_followed : Stmt := inClass (topS 2) 4
abbrev s_day_effect : Stmt := topS 3
abbrev s_power : Stmt := topS 4
abbrev s_InvalidBakery_init : Stmt := inClass (topS 7) 0
abbrev s_InvalidReport_init : Stmt := inClass (topS 9) 0
abbrev s_validate_number : Stmt := topS 13
abbrev s_validate_amounts : Stmt := topS 14
abbrev s_Bakery_init : Stmt := inClass (topS 15) 2
abbrev s_Bakery_bakes : Stmt := inClass (topS 15) 3
abbrev s_Bakery_demands : Stmt := inClass (topS 15) 4
abbrev s_Bakery_life : Stmt := inClass (topS 15) 5
abbrev s_Bakery_settled_day : Stmt := inClass (topS 15) 6
abbrev s_Bakery_long_run : Stmt := inClass (topS 15) 7
abbrev s_Bakery_with_life : Stmt := inClass (topS 15) 8
abbrev s_Bakery_baking_more : Stmt := inClass (topS 15) 9
abbrev s_Bakery_baked_on : Stmt := inClass (topS 15) 10
abbrev s_Bakery_effect_of : Stmt := inClass (topS 15) 11
abbrev s_Bakery_start_of : Stmt := inClass (topS 15) 12
abbrev s_Bakery_stock : Stmt := inClass (topS 15) 13
abbrev s_Bakery_missed : Stmt := inClass (topS 15) 14
abbrev s_Bakery_thrown : Stmt := inClass (topS 15) 15
abbrev s_Bakery_sold : Stmt := inClass (topS 15) 16
abbrev s_Bakery_wished_before : Stmt := inClass (topS 15) 17
abbrev s_Bakery_totals : Stmt := inClass (topS 15) 18
abbrev s_Bakery_shelf : Stmt := inClass (topS 15) 19
abbrev s_rounds_to_settle : Stmt := topS 16
abbrev s_after : Stmt := topS 17
abbrev s_settled_of : Stmt := topS 18
abbrev s_line_of : Stmt := topS 23
abbrev s_number_word : Stmt := topS 24
abbrev s_report : Stmt := topS 25
abbrev s_number_of : Stmt := topS 26
abbrev s_parse_report : Stmt := topS 27
abbrev s_law_start : Stmt := topS 29
abbrev s_law_drawn : Stmt := topS 30
abbrev s_law_same : Stmt := topS 31
abbrev s_law_outcome : Stmt := topS 32
abbrev s_law_amounts : Stmt := topS 33
abbrev s_law_grouped : Stmt := topS 34
abbrev s_law_line : Stmt := topS 35
abbrev s_law_number : Stmt := topS 36
abbrev s_law_read : Stmt := topS 37
abbrev s_law_changed : Stmt := topS 38
abbrev s_law : Stmt := topS 39
def d_Effect_init : DefA := ⟨pM "Effect" "__init__", "__init__", "Effect.__init__", defArgs s_Effect_init, defBody s_Effect_init, defScope s_Effect_init, [], []⟩
def d_Effect_end : DefA := ⟨pM "Effect" "end", "end", "Effect.end", defArgs s_Effect_end, defBody s_Effect_end, defScope s_Effect_end, [], []⟩
def d_Effect_missed : DefA := ⟨pM "Effect" "missed", "missed", "Effect.missed", defArgs s_Effect_missed, defBody s_Effect_missed, defScope s_Effect_missed, [], []⟩
def d_Effect_thrown : DefA := ⟨pM "Effect" "thrown", "thrown", "Effect.thrown", defArgs s_Effect_thrown, defBody s_Effect_thrown, defScope s_Effect_thrown, [], []⟩
def d_Effect_followed : DefA := ⟨pM "Effect" "followed", "followed", "Effect.followed", defArgs s_Effect_followed, defBody s_Effect_followed, defScope s_Effect_followed, [], []⟩
def d_day_effect : DefA := ⟨pG "day_effect", "day_effect", "day_effect", defArgs s_day_effect, defBody s_day_effect, defScope s_day_effect, [], []⟩
def d_power : DefA := ⟨pG "power", "power", "power", defArgs s_power, defBody s_power, defScope s_power, [], []⟩
def d_InvalidBakery_init : DefA := ⟨pM "InvalidBakery" "__init__", "__init__", "InvalidBakery.__init__", defArgs s_InvalidBakery_init, defBody s_InvalidBakery_init, defScope s_InvalidBakery_init, [], []⟩
def d_InvalidReport_init : DefA := ⟨pM "InvalidReport" "__init__", "__init__", "InvalidReport.__init__", defArgs s_InvalidReport_init, defBody s_InvalidReport_init, defScope s_InvalidReport_init, [], []⟩
def d_validate_number : DefA := ⟨pG "validate_number", "validate_number", "validate_number", defArgs s_validate_number, defBody s_validate_number, defScope s_validate_number, [], []⟩
def d_validate_amounts : DefA := ⟨pG "validate_amounts", "validate_amounts", "validate_amounts", defArgs s_validate_amounts, defBody s_validate_amounts, defScope s_validate_amounts, [], []⟩
def d_Bakery_init : DefA := ⟨pM "Bakery" "__init__", "__init__", "Bakery.__init__", defArgs s_Bakery_init, defBody s_Bakery_init, defScope s_Bakery_init, [], []⟩
def d_Bakery_bakes : DefA := ⟨pP "Bakery" "bakes", "bakes", "Bakery.bakes", defArgs s_Bakery_bakes, defBody s_Bakery_bakes, defScope s_Bakery_bakes, [], []⟩
def d_Bakery_demands : DefA := ⟨pP "Bakery" "demands", "demands", "Bakery.demands", defArgs s_Bakery_demands, defBody s_Bakery_demands, defScope s_Bakery_demands, [], []⟩
def d_Bakery_life : DefA := ⟨pP "Bakery" "life", "life", "Bakery.life", defArgs s_Bakery_life, defBody s_Bakery_life, defScope s_Bakery_life, [], []⟩
def d_Bakery_settled_day : DefA := ⟨pP "Bakery" "settled_day", "settled_day", "Bakery.settled_day", defArgs s_Bakery_settled_day, defBody s_Bakery_settled_day, defScope s_Bakery_settled_day, [], []⟩
def d_Bakery_long_run : DefA := ⟨pP "Bakery" "long_run", "long_run", "Bakery.long_run", defArgs s_Bakery_long_run, defBody s_Bakery_long_run, defScope s_Bakery_long_run, [], []⟩
def d_Bakery_with_life : DefA := ⟨pM "Bakery" "with_life", "with_life", "Bakery.with_life", defArgs s_Bakery_with_life, defBody s_Bakery_with_life, defScope s_Bakery_with_life, [], []⟩
def d_Bakery_baking_more : DefA := ⟨pM "Bakery" "baking_more", "baking_more", "Bakery.baking_more", defArgs s_Bakery_baking_more, defBody s_Bakery_baking_more, defScope s_Bakery_baking_more, [], []⟩
def d_Bakery_baked_on : DefA := ⟨pM "Bakery" "baked_on", "baked_on", "Bakery.baked_on", defArgs s_Bakery_baked_on, defBody s_Bakery_baked_on, defScope s_Bakery_baked_on, [], []⟩
def d_Bakery_effect_of : DefA := ⟨pM "Bakery" "effect_of", "effect_of", "Bakery.effect_of", defArgs s_Bakery_effect_of, defBody s_Bakery_effect_of, defScope s_Bakery_effect_of, [], []⟩
def d_Bakery_start_of : DefA := ⟨pM "Bakery" "start_of", "start_of", "Bakery.start_of", defArgs s_Bakery_start_of, defBody s_Bakery_start_of, defScope s_Bakery_start_of, [], []⟩
def d_Bakery_stock : DefA := ⟨pM "Bakery" "stock", "stock", "Bakery.stock", defArgs s_Bakery_stock, defBody s_Bakery_stock, defScope s_Bakery_stock, [], []⟩
def d_Bakery_missed : DefA := ⟨pM "Bakery" "missed", "missed", "Bakery.missed", defArgs s_Bakery_missed, defBody s_Bakery_missed, defScope s_Bakery_missed, [], []⟩
def d_Bakery_thrown : DefA := ⟨pM "Bakery" "thrown", "thrown", "Bakery.thrown", defArgs s_Bakery_thrown, defBody s_Bakery_thrown, defScope s_Bakery_thrown, [], []⟩
def d_Bakery_sold : DefA := ⟨pM "Bakery" "sold", "sold", "Bakery.sold", defArgs s_Bakery_sold, defBody s_Bakery_sold, defScope s_Bakery_sold, [], []⟩
def d_Bakery_wished_before : DefA := ⟨pM "Bakery" "wished_before", "wished_before", "Bakery.wished_before", defArgs s_Bakery_wished_before, defBody s_Bakery_wished_before, defScope s_Bakery_wished_before, [], []⟩
def d_Bakery_totals : DefA := ⟨pM "Bakery" "totals", "totals", "Bakery.totals", defArgs s_Bakery_totals, defBody s_Bakery_totals, defScope s_Bakery_totals, [], []⟩
def d_Bakery_shelf : DefA := ⟨pM "Bakery" "shelf", "shelf", "Bakery.shelf", defArgs s_Bakery_shelf, defBody s_Bakery_shelf, defScope s_Bakery_shelf, [], []⟩
def d_rounds_to_settle : DefA := ⟨pG "rounds_to_settle", "rounds_to_settle", "rounds_to_settle", defArgs s_rounds_to_settle, defBody s_rounds_to_settle, defScope s_rounds_to_settle, [], []⟩
def d_after : DefA := ⟨pG "after", "after", "after", defArgs s_after, defBody s_after, defScope s_after, [], []⟩
def d_settled_of : DefA := ⟨pG "settled_of", "settled_of", "settled_of", defArgs s_settled_of, defBody s_settled_of, defScope s_settled_of, [], []⟩
def d_line_of : DefA := ⟨pG "line_of", "line_of", "line_of", defArgs s_line_of, defBody s_line_of, defScope s_line_of, [], []⟩
def d_number_word : DefA := ⟨pG "number_word", "number_word", "number_word", defArgs s_number_word, defBody s_number_word, defScope s_number_word, [], []⟩
def d_report : DefA := ⟨pG "report", "report", "report", defArgs s_report, defBody s_report, defScope s_report, [], []⟩
def d_number_of : DefA := ⟨pG "number_of", "number_of", "number_of", defArgs s_number_of, defBody s_number_of, defScope s_number_of, [], []⟩
def d_parse_report : DefA := ⟨pG "parse_report", "parse_report", "parse_report", defArgs s_parse_report, defBody s_parse_report, defScope s_parse_report, [], []⟩
def d_law_start : DefA := ⟨pG "_law_start", "_law_start", "_law_start", defArgs s_law_start, defBody s_law_start, defScope s_law_start, [], []⟩
def d_law_drawn : DefA := ⟨pG "_law_drawn", "_law_drawn", "_law_drawn", defArgs s_law_drawn, defBody s_law_drawn, defScope s_law_drawn, [], []⟩
def d_law_same : DefA := ⟨pG "_law_same", "_law_same", "_law_same", defArgs s_law_same, defBody s_law_same, defScope s_law_same, [], []⟩
def d_law_outcome : DefA := ⟨pG "_law_outcome", "_law_outcome", "_law_outcome", defArgs s_law_outcome, defBody s_law_outcome, defScope s_law_outcome, [], []⟩
def d_law_amounts : DefA := ⟨pG "_law_amounts", "_law_amounts", "_law_amounts", defArgs s_law_amounts, defBody s_law_amounts, defScope s_law_amounts, [], []⟩
def d_law_grouped : DefA := ⟨pG "_law_grouped", "_law_grouped", "_law_grouped", defArgs s_law_grouped, defBody s_law_grouped, defScope s_law_grouped, [], []⟩
def d_law_line : DefA := ⟨pG "_law_line", "_law_line", "_law_line", defArgs s_law_line, defBody s_law_line, defScope s_law_line, [], []⟩
def d_law_number : DefA := ⟨pG "_law_number", "_law_number", "_law_number", defArgs s_law_number, defBody s_law_number, defScope s_law_number, [], []⟩
def d_law_read : DefA := ⟨pG "_law_read", "_law_read", "_law_read", defArgs s_law_read, defBody s_law_read, defScope s_law_read, [], []⟩
def d_law_changed : DefA := ⟨pG "_law_changed", "_law_changed", "_law_changed", defArgs s_law_changed, defBody s_law_changed, defScope s_law_changed, [], []⟩
def d_law : DefA := ⟨pG "law", "law", "law", defArgs s_law, defBody s_law, defScope s_law, [], []⟩
def fnL : List DefA := [d_Effect_init, d_Effect_end, d_Effect_missed, d_Effect_thrown, d_Effect_followed, d_day_effect, d_power, d_InvalidBakery_init, d_InvalidReport_init, d_validate_number, d_validate_amounts, d_Bakery_init, d_Bakery_bakes, d_Bakery_demands, d_Bakery_life, d_Bakery_settled_day, d_Bakery_long_run, d_Bakery_with_life, d_Bakery_baking_more, d_Bakery_baked_on, d_Bakery_effect_of, d_Bakery_start_of, d_Bakery_stock, d_Bakery_missed, d_Bakery_thrown, d_Bakery_sold, d_Bakery_wished_before, d_Bakery_totals, d_Bakery_shelf, d_rounds_to_settle, d_after, d_settled_of, d_line_of, d_number_word, d_report, d_number_of, d_parse_report, d_law_start, d_law_drawn, d_law_same, d_law_outcome, d_law_amounts, d_law_grouped, d_law_line, d_law_number, d_law_read, d_law_changed, d_law]
def tfL : List He.Defn := [("law", none)]
def exL : List Ex := [
  fun K => (He.Fa.glo "Effect").ok K,
  fun K => (He.Fa.glo "day_effect").ok K,
  fun K => (He.Fa.glo "power").ok K,
  fun K => (He.Fa.glo "LoafError").ok K,
  fun K => (He.Fa.glo "InvalidBakery").ok K,
  fun K => (He.Fa.glo "InvalidNumber").ok K,
  fun K => (He.Fa.glo "InvalidReport").ok K,
  fun K => (He.Fa.glo "validate_number").ok K,
  fun K => (He.Fa.glo "validate_amounts").ok K,
  fun K => (He.Fa.glo "Bakery").ok K,
  fun K => (He.Fa.glo "rounds_to_settle").ok K,
  fun K => (He.Fa.glo "after").ok K,
  fun K => (He.Fa.glo "settled_of").ok K,
  fun K => (He.Fa.glo "WIDTHS").ok K,
  fun K => (He.Fa.glo "line_of").ok K,
  fun K => (He.Fa.glo "number_word").ok K,
  fun K => (He.Fa.glo "report").ok K,
  fun K => (He.Fa.glo "number_of").ok K,
  fun K => (He.Fa.glo "parse_report").ok K,
  fun K => (He.Fa.glo "_law_start").ok K,
  fun K => (He.Fa.glo "_law_drawn").ok K,
  fun K => (He.Fa.glo "_law_same").ok K,
  fun K => (He.Fa.glo "_law_outcome").ok K,
  fun K => (He.Fa.glo "_law_amounts").ok K,
  fun K => (He.Fa.glo "_law_grouped").ok K,
  fun K => (He.Fa.glo "_law_line").ok K,
  fun K => (He.Fa.glo "_law_number").ok K,
  fun K => (He.Fa.glo "_law_read").ok K,
  fun K => (He.Fa.glo "_law_changed").ok K,
  fun K => (He.Fa.glo "law").ok K,
  fun K => (He.Fa.free "ValueError").ok K,
  fun K => (He.Fa.free "all").ok K,
  fun K => (He.Fa.free "bool").ok K,
  fun K => (He.Fa.free "enumerate").ok K,
  fun K => (He.Fa.free "int").ok K,
  fun K => (He.Fa.free "isinstance").ok K,
  fun K => (He.Fa.free "len").ok K,
  fun K => (He.Fa.free "list").ok K,
  fun K => (He.Fa.free "max").ok K,
  fun K => (He.Fa.free "min").ok K,
  fun K => (He.Fa.free "property").ok K,
  fun K => (He.Fa.free "range").ok K,
  fun K => (He.Fa.free "str").ok K,
  fun K => (He.Fa.free "sum").ok K,
  fun K => (He.Fa.free "tuple").ok K,
  fun K => (He.Fa.int "MAX_AMOUNT" (1000000000)).ok K,
  fun K => (He.Fa.int "MAX_DAY" (1000000000000000000)).ok K,
  fun K => (He.Fa.int "MAX_LINES" (500)).ok K,
  fun K => (He.Fa.str "DIGITS" "0123456789").ok K,
  tupB "WIDTHS" [26, 14, 14, 14, 14],
  fun K => (He.Fa.cls "Effect").ok K,
  fun K => (He.Fa.mkr "Effect").ok K,
  fun K => (He.Fa.noat "Effect" "shift").ok K,
  fun K => (He.Fa.noat "Effect" "low").ok K,
  fun K => (He.Fa.noat "Effect" "high").ok K,
  fun K => (He.Fa.noat "Effect" "need").ok K,
  fun K => (He.Fa.noat "Effect" "room").ok K,
  fun K => (He.Fa.noat "Effect" "misses").ok K,
  fun K => (He.Fa.noat "Effect" "waste").ok K,
  fun K => (He.Fa.meth "Effect" "end").ok K,
  fun K => (He.Fa.meth "Effect" "missed").ok K,
  fun K => (He.Fa.meth "Effect" "thrown").ok K,
  fun K => (He.Fa.meth "Effect" "followed").ok K,
  fun K => (He.Fa.cls "Bakery").ok K,
  fun K => (He.Fa.mkr "Bakery").ok K,
  fun K => (He.Fa.noat "Bakery" "baking").ok K,
  fun K => (He.Fa.noat "Bakery" "wishes").ok K,
  fun K => (He.Fa.noat "Bakery" "days_kept").ok K,
  fun K => (He.Fa.noat "Bakery" "size").ok K,
  fun K => (He.Fa.noat "Bakery" "early").ok K,
  fun K => (He.Fa.noat "Bakery" "round").ok K,
  fun K => (He.Fa.noat "Bakery" "prefixes").ok K,
  fun K => (He.Fa.noat "Bakery" "settled").ok K,
  fun K => (He.Fa.meth "Bakery" "with_life").ok K,
  fun K => (He.Fa.meth "Bakery" "baking_more").ok K,
  fun K => (He.Fa.meth "Bakery" "baked_on").ok K,
  fun K => (He.Fa.meth "Bakery" "effect_of").ok K,
  fun K => (He.Fa.meth "Bakery" "start_of").ok K,
  fun K => (He.Fa.meth "Bakery" "stock").ok K,
  fun K => (He.Fa.meth "Bakery" "missed").ok K,
  fun K => (He.Fa.meth "Bakery" "thrown").ok K,
  fun K => (He.Fa.meth "Bakery" "sold").ok K,
  fun K => (He.Fa.meth "Bakery" "wished_before").ok K,
  fun K => (He.Fa.meth "Bakery" "totals").ok K,
  fun K => (He.Fa.meth "Bakery" "shelf").ok K,
  propB "Bakery" "bakes",
  propB "Bakery" "demands",
  propB "Bakery" "life",
  propB "Bakery" "settled_day",
  propB "Bakery" "long_run",
  cvalB "Bakery" "MAX_DAYS" (24),
  cvalB "Bakery" "MAX_LIFE" (30),
  fun K => (He.Fa.exc "LoafError").ok K,
  linB "LoafError",
  fun K => (He.Fa.exm "LoafError" "InvalidNumber" false).ok K,
  fun K => (He.Fa.exm "LoafError" "InvalidReport" false).ok K,
  oexB "InvalidBakery",
  xnaB "InvalidBakery" "part",
  xnaB "InvalidBakery" "index",
  fun K => (He.Fa.exm "InvalidBakery" "InvalidNumber" false).ok K,
  fun K => (He.Fa.exm "InvalidBakery" "InvalidReport" false).ok K,
  fun K => (He.Fa.exc "InvalidNumber").ok K,
  fun K => (He.Fa.exm "InvalidNumber" "InvalidNumber" true).ok K,
  fun K => (He.Fa.exm "InvalidNumber" "InvalidReport" false).ok K,
  oexB "InvalidReport",
  xnaB "InvalidReport" "row",
  fun K => (He.Fa.exm "InvalidReport" "InvalidNumber" false).ok K,
  fun K => (He.Fa.exm "InvalidReport" "InvalidReport" true).ok K]
structure Tx (K : PySem.W.Frag) (mg : Str → Option Value) : Prop where
  c : SaysA exL fnL K
  h : ∃ h : Heap, K.In h ∧ h.Ns mainGlobals mg
section
variable {K : PySem.W.Frag} {mg : Str → Option Value} (T : Tx K mg)
include T
theorem fg_Effect : mg "Effect" = some (.ref (He.ga K "Effect")) := by
  obtain ⟨h, hX, hG⟩ := T.h
  exact He.glo_ok hX hG (T.c.fact 0)
theorem fg_day_effect : mg "day_effect" = some (.ref (He.ga K "day_effect")) := by
  obtain ⟨h, hX, hG⟩ := T.h
  exact He.glo_ok hX hG (T.c.fact 1)
theorem fg_power : mg "power" = some (.ref (He.ga K "power")) := by
  obtain ⟨h, hX, hG⟩ := T.h
  exact He.glo_ok hX hG (T.c.fact 2)
theorem fg_LoafError : mg "LoafError" = some (.ref (He.ga K "LoafError")) := by
  obtain ⟨h, hX, hG⟩ := T.h
  exact He.glo_ok hX hG (T.c.fact 3)
theorem fg_InvalidBakery : mg "InvalidBakery" = some (.ref (He.ga K "InvalidBakery")) := by
  obtain ⟨h, hX, hG⟩ := T.h
  exact He.glo_ok hX hG (T.c.fact 4)
theorem fg_InvalidNumber : mg "InvalidNumber" = some (.ref (He.ga K "InvalidNumber")) := by
  obtain ⟨h, hX, hG⟩ := T.h
  exact He.glo_ok hX hG (T.c.fact 5)
theorem fg_InvalidReport : mg "InvalidReport" = some (.ref (He.ga K "InvalidReport")) := by
  obtain ⟨h, hX, hG⟩ := T.h
  exact He.glo_ok hX hG (T.c.fact 6)
theorem fg_validate_number : mg "validate_number" = some (.ref (He.ga K "validate_number")) := by
  obtain ⟨h, hX, hG⟩ := T.h
  exact He.glo_ok hX hG (T.c.fact 7)
theorem fg_validate_amounts : mg "validate_amounts" = some (.ref (He.ga K "validate_amounts")) := by
  obtain ⟨h, hX, hG⟩ := T.h
  exact He.glo_ok hX hG (T.c.fact 8)
theorem fg_Bakery : mg "Bakery" = some (.ref (He.ga K "Bakery")) := by
  obtain ⟨h, hX, hG⟩ := T.h
  exact He.glo_ok hX hG (T.c.fact 9)
theorem fg_rounds_to_settle : mg "rounds_to_settle" = some (.ref (He.ga K "rounds_to_settle")) := by
  obtain ⟨h, hX, hG⟩ := T.h
  exact He.glo_ok hX hG (T.c.fact 10)
theorem fg_after : mg "after" = some (.ref (He.ga K "after")) := by
  obtain ⟨h, hX, hG⟩ := T.h
  exact He.glo_ok hX hG (T.c.fact 11)
theorem fg_settled_of : mg "settled_of" = some (.ref (He.ga K "settled_of")) := by
  obtain ⟨h, hX, hG⟩ := T.h
  exact He.glo_ok hX hG (T.c.fact 12)
theorem fg_WIDTHS : mg "WIDTHS" = some (.ref (He.ga K "WIDTHS")) := by
  obtain ⟨h, hX, hG⟩ := T.h
  exact He.glo_ok hX hG (T.c.fact 13)
theorem fg_line_of : mg "line_of" = some (.ref (He.ga K "line_of")) := by
  obtain ⟨h, hX, hG⟩ := T.h
  exact He.glo_ok hX hG (T.c.fact 14)
theorem fg_number_word : mg "number_word" = some (.ref (He.ga K "number_word")) := by
  obtain ⟨h, hX, hG⟩ := T.h
  exact He.glo_ok hX hG (T.c.fact 15)
theorem fg_report : mg "report" = some (.ref (He.ga K "report")) := by
  obtain ⟨h, hX, hG⟩ := T.h
  exact He.glo_ok hX hG (T.c.fact 16)
theorem fg_number_of : mg "number_of" = some (.ref (He.ga K "number_of")) := by
  obtain ⟨h, hX, hG⟩ := T.h
  exact He.glo_ok hX hG (T.c.fact 17)
theorem fg_parse_report : mg "parse_report" = some (.ref (He.ga K "parse_report")) := by
  obtain ⟨h, hX, hG⟩ := T.h
  exact He.glo_ok hX hG (T.c.fact 18)
theorem fg_law_start : mg "_law_start" = some (.ref (He.ga K "_law_start")) := by
  obtain ⟨h, hX, hG⟩ := T.h
  exact He.glo_ok hX hG (T.c.fact 19)
theorem fg_law_drawn : mg "_law_drawn" = some (.ref (He.ga K "_law_drawn")) := by
  obtain ⟨h, hX, hG⟩ := T.h
  exact He.glo_ok hX hG (T.c.fact 20)
theorem fg_law_same : mg "_law_same" = some (.ref (He.ga K "_law_same")) := by
  obtain ⟨h, hX, hG⟩ := T.h
  exact He.glo_ok hX hG (T.c.fact 21)
theorem fg_law_outcome : mg "_law_outcome" = some (.ref (He.ga K "_law_outcome")) := by
  obtain ⟨h, hX, hG⟩ := T.h
  exact He.glo_ok hX hG (T.c.fact 22)
theorem fg_law_amounts : mg "_law_amounts" = some (.ref (He.ga K "_law_amounts")) := by
  obtain ⟨h, hX, hG⟩ := T.h
  exact He.glo_ok hX hG (T.c.fact 23)
theorem fg_law_grouped : mg "_law_grouped" = some (.ref (He.ga K "_law_grouped")) := by
  obtain ⟨h, hX, hG⟩ := T.h
  exact He.glo_ok hX hG (T.c.fact 24)
theorem fg_law_line : mg "_law_line" = some (.ref (He.ga K "_law_line")) := by
  obtain ⟨h, hX, hG⟩ := T.h
  exact He.glo_ok hX hG (T.c.fact 25)
theorem fg_law_number : mg "_law_number" = some (.ref (He.ga K "_law_number")) := by
  obtain ⟨h, hX, hG⟩ := T.h
  exact He.glo_ok hX hG (T.c.fact 26)
theorem fg_law_read : mg "_law_read" = some (.ref (He.ga K "_law_read")) := by
  obtain ⟨h, hX, hG⟩ := T.h
  exact He.glo_ok hX hG (T.c.fact 27)
theorem fg_law_changed : mg "_law_changed" = some (.ref (He.ga K "_law_changed")) := by
  obtain ⟨h, hX, hG⟩ := T.h
  exact He.glo_ok hX hG (T.c.fact 28)
theorem fg_law : mg "law" = some (.ref (He.ga K "law")) := by
  obtain ⟨h, hX, hG⟩ := T.h
  exact He.glo_ok hX hG (T.c.fact 29)
theorem fn_ValueError : mg "ValueError" = none := by
  obtain ⟨h, hX, hG⟩ := T.h
  exact He.free_ok hX hG (T.c.fact 30)
theorem fn_all : mg "all" = none := by
  obtain ⟨h, hX, hG⟩ := T.h
  exact He.free_ok hX hG (T.c.fact 31)
theorem fn_bool : mg "bool" = none := by
  obtain ⟨h, hX, hG⟩ := T.h
  exact He.free_ok hX hG (T.c.fact 32)
theorem fn_enumerate : mg "enumerate" = none := by
  obtain ⟨h, hX, hG⟩ := T.h
  exact He.free_ok hX hG (T.c.fact 33)
theorem fn_int : mg "int" = none := by
  obtain ⟨h, hX, hG⟩ := T.h
  exact He.free_ok hX hG (T.c.fact 34)
theorem fn_isinstance : mg "isinstance" = none := by
  obtain ⟨h, hX, hG⟩ := T.h
  exact He.free_ok hX hG (T.c.fact 35)
theorem fn_len : mg "len" = none := by
  obtain ⟨h, hX, hG⟩ := T.h
  exact He.free_ok hX hG (T.c.fact 36)
theorem fn_list : mg "list" = none := by
  obtain ⟨h, hX, hG⟩ := T.h
  exact He.free_ok hX hG (T.c.fact 37)
theorem fn_max : mg "max" = none := by
  obtain ⟨h, hX, hG⟩ := T.h
  exact He.free_ok hX hG (T.c.fact 38)
theorem fn_min : mg "min" = none := by
  obtain ⟨h, hX, hG⟩ := T.h
  exact He.free_ok hX hG (T.c.fact 39)
theorem fn_property : mg "property" = none := by
  obtain ⟨h, hX, hG⟩ := T.h
  exact He.free_ok hX hG (T.c.fact 40)
theorem fn_range : mg "range" = none := by
  obtain ⟨h, hX, hG⟩ := T.h
  exact He.free_ok hX hG (T.c.fact 41)
theorem fn_str : mg "str" = none := by
  obtain ⟨h, hX, hG⟩ := T.h
  exact He.free_ok hX hG (T.c.fact 42)
theorem fn_sum : mg "sum" = none := by
  obtain ⟨h, hX, hG⟩ := T.h
  exact He.free_ok hX hG (T.c.fact 43)
theorem fn_tuple : mg "tuple" = none := by
  obtain ⟨h, hX, hG⟩ := T.h
  exact He.free_ok hX hG (T.c.fact 44)
theorem fi_MAX_AMOUNT : ∃ t, mg "MAX_AMOUNT" = some (.int (1000000000) t) := by
  obtain ⟨h, hX, hG⟩ := T.h
  exact He.int_ok hX hG (T.c.fact 45)
theorem fi_MAX_DAY : ∃ t, mg "MAX_DAY" = some (.int (1000000000000000000) t) := by
  obtain ⟨h, hX, hG⟩ := T.h
  exact He.int_ok hX hG (T.c.fact 46)
theorem fi_MAX_LINES : ∃ t, mg "MAX_LINES" = some (.int (500) t) := by
  obtain ⟨h, hX, hG⟩ := T.h
  exact He.int_ok hX hG (T.c.fact 47)
theorem fi_DIGITS : ∃ t, mg "DIGITS" = some (.str "0123456789" t) := by
  obtain ⟨h, hX, hG⟩ := T.h
  exact He.str_ok hX hG (T.c.fact 48)
theorem ft_WIDTHS : ∀ H, SqT K H (He.ga K "WIDTHS") (([26, 14, 14, 14, 14] : List Int).map V.int) := tupB_ok (T.c.fact 49)
theorem fc_Effect : Cls K (He.ga K "Effect") := He.cls_ok (T.c.fact 50)
theorem fmk_Effect : Mk K (He.ga K "Effect") (He.ma K (He.ga K "Effect") "__init__") := He.mkr_ok (T.c.fact 51)
theorem fna_Effect_shift : NoAttr K (He.ga K "Effect") "shift" := He.noat_ok (T.c.fact 52)
theorem fna_Effect_low : NoAttr K (He.ga K "Effect") "low" := He.noat_ok (T.c.fact 53)
theorem fna_Effect_high : NoAttr K (He.ga K "Effect") "high" := He.noat_ok (T.c.fact 54)
theorem fna_Effect_need : NoAttr K (He.ga K "Effect") "need" := He.noat_ok (T.c.fact 55)
theorem fna_Effect_room : NoAttr K (He.ga K "Effect") "room" := He.noat_ok (T.c.fact 56)
theorem fna_Effect_misses : NoAttr K (He.ga K "Effect") "misses" := He.noat_ok (T.c.fact 57)
theorem fna_Effect_waste : NoAttr K (He.ga K "Effect") "waste" := He.noat_ok (T.c.fact 58)
theorem fme_Effect_end : Meth K (He.ga K "Effect") "end" (He.ma K (He.ga K "Effect") "end") := He.meth_ok (T.c.fact 59)
theorem fme_Effect_missed : Meth K (He.ga K "Effect") "missed" (He.ma K (He.ga K "Effect") "missed") := He.meth_ok (T.c.fact 60)
theorem fme_Effect_thrown : Meth K (He.ga K "Effect") "thrown" (He.ma K (He.ga K "Effect") "thrown") := He.meth_ok (T.c.fact 61)
theorem fme_Effect_followed : Meth K (He.ga K "Effect") "followed" (He.ma K (He.ga K "Effect") "followed") := He.meth_ok (T.c.fact 62)
theorem fc_Bakery : Cls K (He.ga K "Bakery") := He.cls_ok (T.c.fact 63)
theorem fmk_Bakery : Mk K (He.ga K "Bakery") (He.ma K (He.ga K "Bakery") "__init__") := He.mkr_ok (T.c.fact 64)
theorem fna_Bakery_baking : NoAttr K (He.ga K "Bakery") "baking" := He.noat_ok (T.c.fact 65)
theorem fna_Bakery_wishes : NoAttr K (He.ga K "Bakery") "wishes" := He.noat_ok (T.c.fact 66)
theorem fna_Bakery_days_kept : NoAttr K (He.ga K "Bakery") "days_kept" := He.noat_ok (T.c.fact 67)
theorem fna_Bakery_size : NoAttr K (He.ga K "Bakery") "size" := He.noat_ok (T.c.fact 68)
theorem fna_Bakery_early : NoAttr K (He.ga K "Bakery") "early" := He.noat_ok (T.c.fact 69)
theorem fna_Bakery_round : NoAttr K (He.ga K "Bakery") "round" := He.noat_ok (T.c.fact 70)
theorem fna_Bakery_prefixes : NoAttr K (He.ga K "Bakery") "prefixes" := He.noat_ok (T.c.fact 71)
theorem fna_Bakery_settled : NoAttr K (He.ga K "Bakery") "settled" := He.noat_ok (T.c.fact 72)
theorem fme_Bakery_with_life : Meth K (He.ga K "Bakery") "with_life" (He.ma K (He.ga K "Bakery") "with_life") := He.meth_ok (T.c.fact 73)
theorem fme_Bakery_baking_more : Meth K (He.ga K "Bakery") "baking_more" (He.ma K (He.ga K "Bakery") "baking_more") := He.meth_ok (T.c.fact 74)
theorem fme_Bakery_baked_on : Meth K (He.ga K "Bakery") "baked_on" (He.ma K (He.ga K "Bakery") "baked_on") := He.meth_ok (T.c.fact 75)
theorem fme_Bakery_effect_of : Meth K (He.ga K "Bakery") "effect_of" (He.ma K (He.ga K "Bakery") "effect_of") := He.meth_ok (T.c.fact 76)
theorem fme_Bakery_start_of : Meth K (He.ga K "Bakery") "start_of" (He.ma K (He.ga K "Bakery") "start_of") := He.meth_ok (T.c.fact 77)
theorem fme_Bakery_stock : Meth K (He.ga K "Bakery") "stock" (He.ma K (He.ga K "Bakery") "stock") := He.meth_ok (T.c.fact 78)
theorem fme_Bakery_missed : Meth K (He.ga K "Bakery") "missed" (He.ma K (He.ga K "Bakery") "missed") := He.meth_ok (T.c.fact 79)
theorem fme_Bakery_thrown : Meth K (He.ga K "Bakery") "thrown" (He.ma K (He.ga K "Bakery") "thrown") := He.meth_ok (T.c.fact 80)
theorem fme_Bakery_sold : Meth K (He.ga K "Bakery") "sold" (He.ma K (He.ga K "Bakery") "sold") := He.meth_ok (T.c.fact 81)
theorem fme_Bakery_wished_before : Meth K (He.ga K "Bakery") "wished_before" (He.ma K (He.ga K "Bakery") "wished_before") := He.meth_ok (T.c.fact 82)
theorem fme_Bakery_totals : Meth K (He.ga K "Bakery") "totals" (He.ma K (He.ga K "Bakery") "totals") := He.meth_ok (T.c.fact 83)
theorem fme_Bakery_shelf : Meth K (He.ga K "Bakery") "shelf" (He.ma K (He.ga K "Bakery") "shelf") := He.meth_ok (T.c.fact 84)
theorem fpr_Bakery_bakes : (propB "Bakery" "bakes") K = true := T.c.fact 85
theorem fpr_Bakery_demands : (propB "Bakery" "demands") K = true := T.c.fact 86
theorem fpr_Bakery_life : (propB "Bakery" "life") K = true := T.c.fact 87
theorem fpr_Bakery_settled_day : (propB "Bakery" "settled_day") K = true := T.c.fact 88
theorem fpr_Bakery_long_run : (propB "Bakery" "long_run") K = true := T.c.fact 89
theorem fcv_Bakery_MAX_DAYS : ClX.CRead K (He.ga K "Bakery") (.type "type") ∧ ∃ u, ClX.CVal K (He.ga K "Bakery") (.type "type") "MAX_DAYS" (.int (24)) u := cval_ok (T.c.fact 90)
theorem fcv_Bakery_MAX_LIFE : ClX.CRead K (He.ga K "Bakery") (.type "type") ∧ ∃ u, ClX.CVal K (He.ga K "Bakery") (.type "type") "MAX_LIFE" (.int (30)) u := cval_ok (T.c.fact 91)
theorem fex_LoafError : PySem.W.excIn K (He.ga K "LoafError") He.veBase "ValueError.__new__" = true ∧ PySem.W.keepIn K (.ref (He.ga K "LoafError")) = true ∧ PySem.W.subIn K (.ref (He.ga K "LoafError")) (.type "BaseException") = some true ∧ PySem.W.typeIn K (.ref (He.ga K "LoafError")) = some (.type "type") := He.exc_ok (T.c.fact 92)
theorem fli_LoafError : ClX.CRead K (He.ga K "LoafError") (.type "type") ∧ PySem.W.findCls K (.ref (He.ga K "LoafError")) (.type "type") "__init__" = some (.val (.builtin "ValueError.__init__")) := lin_ok (T.c.fact 93)
theorem fxm_LoafError_InvalidNumber : PySem.W.exmOne K (.ref (He.ga K "LoafError")) (.ref (He.ga K "InvalidNumber")) = some false := He.exm_ok (T.c.fact 94)
theorem fxm_LoafError_InvalidReport : PySem.W.exmOne K (.ref (He.ga K "LoafError")) (.ref (He.ga K "InvalidReport")) = some false := He.exm_ok (T.c.fact 95)
theorem fox_InvalidBakery : Oex K "InvalidBakery" := oex_ok (T.c.fact 96)
theorem fxn_InvalidBakery_part : PySem.W.findIn K (.ref (He.ga K "InvalidBakery")) "part" = some none := xna_ok (T.c.fact 97)
theorem fxn_InvalidBakery_index : PySem.W.findIn K (.ref (He.ga K "InvalidBakery")) "index" = some none := xna_ok (T.c.fact 98)
theorem fxm_InvalidBakery_InvalidNumber : PySem.W.exmOne K (.ref (He.ga K "InvalidBakery")) (.ref (He.ga K "InvalidNumber")) = some false := He.exm_ok (T.c.fact 99)
theorem fxm_InvalidBakery_InvalidReport : PySem.W.exmOne K (.ref (He.ga K "InvalidBakery")) (.ref (He.ga K "InvalidReport")) = some false := He.exm_ok (T.c.fact 100)
theorem fex_InvalidNumber : PySem.W.excIn K (He.ga K "InvalidNumber") He.veBase "ValueError.__new__" = true ∧ PySem.W.keepIn K (.ref (He.ga K "InvalidNumber")) = true ∧ PySem.W.subIn K (.ref (He.ga K "InvalidNumber")) (.type "BaseException") = some true ∧ PySem.W.typeIn K (.ref (He.ga K "InvalidNumber")) = some (.type "type") := He.exc_ok (T.c.fact 101)
theorem fxm_InvalidNumber_InvalidNumber : PySem.W.exmOne K (.ref (He.ga K "InvalidNumber")) (.ref (He.ga K "InvalidNumber")) = some true := He.exm_ok (T.c.fact 102)
theorem fxm_InvalidNumber_InvalidReport : PySem.W.exmOne K (.ref (He.ga K "InvalidNumber")) (.ref (He.ga K "InvalidReport")) = some false := He.exm_ok (T.c.fact 103)
theorem fox_InvalidReport : Oex K "InvalidReport" := oex_ok (T.c.fact 104)
theorem fxn_InvalidReport_row : PySem.W.findIn K (.ref (He.ga K "InvalidReport")) "row" = some none := xna_ok (T.c.fact 105)
theorem fxm_InvalidReport_InvalidNumber : PySem.W.exmOne K (.ref (He.ga K "InvalidReport")) (.ref (He.ga K "InvalidNumber")) = some false := He.exm_ok (T.c.fact 106)
theorem fxm_InvalidReport_InvalidReport : PySem.W.exmOne K (.ref (He.ga K "InvalidReport")) (.ref (He.ga K "InvalidReport")) = some true := He.exm_ok (T.c.fact 107)
theorem fn_Effect_init : ∃ fd, (d_Effect_init).Fn K fd := T.c.fn_ 0
theorem fn_Effect_end : ∃ fd, (d_Effect_end).Fn K fd := T.c.fn_ 1
theorem fn_Effect_missed : ∃ fd, (d_Effect_missed).Fn K fd := T.c.fn_ 2
theorem fn_Effect_thrown : ∃ fd, (d_Effect_thrown).Fn K fd := T.c.fn_ 3
theorem fn_Effect_followed : ∃ fd, (d_Effect_followed).Fn K fd := T.c.fn_ 4
theorem fn_day_effect : ∃ fd, (d_day_effect).Fn K fd := T.c.fn_ 5
theorem fn_power : ∃ fd, (d_power).Fn K fd := T.c.fn_ 6
theorem fn_InvalidBakery_init : ∃ fd, (d_InvalidBakery_init).Fn K fd := T.c.fn_ 7
theorem fn_InvalidReport_init : ∃ fd, (d_InvalidReport_init).Fn K fd := T.c.fn_ 8
theorem fn_validate_number : ∃ fd, (d_validate_number).Fn K fd := T.c.fn_ 9
theorem fn_validate_amounts : ∃ fd, (d_validate_amounts).Fn K fd := T.c.fn_ 10
theorem fn_Bakery_init : ∃ fd, (d_Bakery_init).Fn K fd := T.c.fn_ 11
theorem fn_Bakery_bakes : ∃ fd, (d_Bakery_bakes).Fn K fd := T.c.fn_ 12
theorem fn_Bakery_demands : ∃ fd, (d_Bakery_demands).Fn K fd := T.c.fn_ 13
theorem fn_Bakery_life : ∃ fd, (d_Bakery_life).Fn K fd := T.c.fn_ 14
theorem fn_Bakery_settled_day : ∃ fd, (d_Bakery_settled_day).Fn K fd := T.c.fn_ 15
theorem fn_Bakery_long_run : ∃ fd, (d_Bakery_long_run).Fn K fd := T.c.fn_ 16
theorem fn_Bakery_with_life : ∃ fd, (d_Bakery_with_life).Fn K fd := T.c.fn_ 17
theorem fn_Bakery_baking_more : ∃ fd, (d_Bakery_baking_more).Fn K fd := T.c.fn_ 18
theorem fn_Bakery_baked_on : ∃ fd, (d_Bakery_baked_on).Fn K fd := T.c.fn_ 19
theorem fn_Bakery_effect_of : ∃ fd, (d_Bakery_effect_of).Fn K fd := T.c.fn_ 20
theorem fn_Bakery_start_of : ∃ fd, (d_Bakery_start_of).Fn K fd := T.c.fn_ 21
theorem fn_Bakery_stock : ∃ fd, (d_Bakery_stock).Fn K fd := T.c.fn_ 22
theorem fn_Bakery_missed : ∃ fd, (d_Bakery_missed).Fn K fd := T.c.fn_ 23
theorem fn_Bakery_thrown : ∃ fd, (d_Bakery_thrown).Fn K fd := T.c.fn_ 24
theorem fn_Bakery_sold : ∃ fd, (d_Bakery_sold).Fn K fd := T.c.fn_ 25
theorem fn_Bakery_wished_before : ∃ fd, (d_Bakery_wished_before).Fn K fd := T.c.fn_ 26
theorem fn_Bakery_totals : ∃ fd, (d_Bakery_totals).Fn K fd := T.c.fn_ 27
theorem fn_Bakery_shelf : ∃ fd, (d_Bakery_shelf).Fn K fd := T.c.fn_ 28
theorem fn_rounds_to_settle : ∃ fd, (d_rounds_to_settle).Fn K fd := T.c.fn_ 29
theorem fn_after : ∃ fd, (d_after).Fn K fd := T.c.fn_ 30
theorem fn_settled_of : ∃ fd, (d_settled_of).Fn K fd := T.c.fn_ 31
theorem fn_line_of : ∃ fd, (d_line_of).Fn K fd := T.c.fn_ 32
theorem fn_number_word : ∃ fd, (d_number_word).Fn K fd := T.c.fn_ 33
theorem fn_report : ∃ fd, (d_report).Fn K fd := T.c.fn_ 34
theorem fn_number_of : ∃ fd, (d_number_of).Fn K fd := T.c.fn_ 35
theorem fn_parse_report : ∃ fd, (d_parse_report).Fn K fd := T.c.fn_ 36
theorem fn_law_start : ∃ fd, (d_law_start).Fn K fd := T.c.fn_ 37
theorem fn_law_drawn : ∃ fd, (d_law_drawn).Fn K fd := T.c.fn_ 38
theorem fn_law_same : ∃ fd, (d_law_same).Fn K fd := T.c.fn_ 39
theorem fn_law_outcome : ∃ fd, (d_law_outcome).Fn K fd := T.c.fn_ 40
theorem fn_law_amounts : ∃ fd, (d_law_amounts).Fn K fd := T.c.fn_ 41
theorem fn_law_grouped : ∃ fd, (d_law_grouped).Fn K fd := T.c.fn_ 42
theorem fn_law_line : ∃ fd, (d_law_line).Fn K fd := T.c.fn_ 43
theorem fn_law_number : ∃ fd, (d_law_number).Fn K fd := T.c.fn_ 44
theorem fn_law_read : ∃ fd, (d_law_read).Fn K fd := T.c.fn_ 45
theorem fn_law_changed : ∃ fd, (d_law_changed).Fn K fd := T.c.fn_ 46
theorem fn_law : ∃ fd, (d_law).Fn K fd := T.c.fn_ 47
end
structure TxB (K : PySem.W.Frag) (mg : Str → Option Value) (base : Heap) : Prop where
  t : Tx K mg
  tb : ∀ p ∈ tfL, LamX.TabB base mg (He.cT K p).1 (He.cT K p).2
abbrev TL (K : PySem.W.Frag) : List (Addr × Str) := [((He.cT K ("law", none)).2, (("law" : Str) ++ ".<locals>.") ++ "<lambda>")]
theorem tb_law {K : PySem.W.Frag} {mg : Str → Option Value} {base : Heap} (B : TxB K mg base) : LamX.TabB base mg (He.cT K ("law", none)).1 (He.cT K ("law", none)).2 := B.tb _ List.mem_cons_self
theorem tm_law {K : PySem.W.Frag} : ((He.cT K ("law", none)).2, (("law" : Str) ++ ".<locals>.") ++ "<lambda>") ∈ TL K := List.mem_cons_self
theorem tu_law {K : PySem.W.Frag} {mg : Str → Option Value} {base : Heap} (B : TxB K mg base) : ∀ p ∈ TL K, p.1 = (He.cT K ("law", none)).2 → p.2 = (("law" : Str) ++ ".<locals>.") ++ "<lambda>" := fun p hp _ => by rw [List.mem_singleton.mp hp]
abbrev N_law : List Str := ["_law_script", "_law_state", "_law_turn", "_law_high", "_law_size", "_law_bakes", "_law_demands", "_law_bakery", "_law_first", "_law_last", "_law_lines", "_law_day", "_law_numbers", "_law_number_here", "_law_text", "_law_change", "_law_works", "_law_work"]
def lm_law_0 : LamD := lamAt (defBody s_law) [1, 10] [0, 1, 1]
theorem ns_law_0 : NdefX.NScope ["_law_text"] ([] : List Str) (["_law_text"] : List Str) lm_law_0.scope := NdefX.nscope_by (by decide +kernel)
theorem cap_law_0 : capB N_law (defScope s_law) lm_law_0.scope ["_law_text"] [14] = true := by decide +kernel
theorem lb_law_0 : LBind lm_law_0 [] [] := lbind0 fun F doc pm ctv us hd he hl => by
  obtain ⟨_, _, _, _, _⟩ := F
  cases hd
  cases he
  match us, hl with
  | [], _ => rfl
def lm_law_1 : LamD := lamAt (defBody s_law) [1, 11] [0]
theorem ns_law_1 : NdefX.NScope ["_law_bakery"] ([] : List Str) (["_law_bakery"] : List Str) lm_law_1.scope := NdefX.nscope_by (by decide +kernel)
theorem cap_law_1 : capB N_law (defScope s_law) lm_law_1.scope ["_law_bakery"] [7] = true := by decide +kernel
theorem lb_law_1 : LBind lm_law_1 [] [] := lbind0 fun F doc pm ctv us hd he hl => by
  obtain ⟨_, _, _, _, _⟩ := F
  cases hd
  cases he
  match us, hl with
  | [], _ => rfl
def lm_law_2 : LamD := lamAt (defBody s_law) [1, 11] [1]
theorem ns_law_2 : NdefX.NScope ["_law_a", "_law_bakery"] (["_law_a"] : List Str) (["_law_bakery"] : List Str) lm_law_2.scope := NdefX.nscope_by (by decide +kernel)
theorem cap_law_2 : capB N_law (defScope s_law) lm_law_2.scope ["_law_bakery"] [7] = true := by decide +kernel
theorem lb_law_2 : LBind lm_law_2 ["_law_a"] [.int 0] := lbind1 fun F doc pm ctv hd => by
  obtain ⟨_, _, _, _, _⟩ := F
  cases hd
  exact ⟨_, rfl, fun _ => rfl⟩
def lm_law_3 : LamD := lamAt (defBody s_law) [1, 11] [2]
theorem ns_law_3 : NdefX.NScope ["_law_b", "_law_bakery"] (["_law_b"] : List Str) (["_law_bakery"] : List Str) lm_law_3.scope := NdefX.nscope_by (by decide +kernel)
theorem cap_law_3 : capB N_law (defScope s_law) lm_law_3.scope ["_law_bakery"] [7] = true := by decide +kernel
theorem lb_law_3 : LBind lm_law_3 ["_law_b"] [.int 0] := lbind1 fun F doc pm ctv hd => by
  obtain ⟨_, _, _, _, _⟩ := F
  cases hd
  exact ⟨_, rfl, fun _ => rfl⟩
theorem sc_Effect_init : FnScope ["self", "shift", "low", "high", "need", "room", "misses", "waste"] ["self", "shift", "low", "high", "need", "room", "misses", "waste"] (defScope s_Effect_init) := ⟨rfl, rfl, rfl, by decide +kernel, rfl, by decide +kernel, by decide +kernel⟩
theorem sc_Effect_end : FnScope ["self", "stock"] ["self", "stock"] (defScope s_Effect_end) := ⟨rfl, rfl, rfl, by decide +kernel, rfl, by decide +kernel, by decide +kernel⟩
theorem sc_Effect_missed : FnScope ["self", "stock"] ["self", "stock"] (defScope s_Effect_missed) := ⟨rfl, rfl, rfl, by decide +kernel, rfl, by decide +kernel, by decide +kernel⟩
theorem sc_Effect_thrown : FnScope ["self", "stock"] ["self", "stock"] (defScope s_Effect_thrown) := ⟨rfl, rfl, rfl, by decide +kernel, rfl, by decide +kernel, by decide +kernel⟩
theorem sc_Effect_followed : FnScope ["self", "other", "low", "high", "need", "room", "misses", "waste"] ["self", "other"] (defScope s_Effect_followed) := ⟨rfl, rfl, rfl, by decide +kernel, rfl, by decide +kernel, by decide +kernel⟩
theorem sc_day_effect : FnScope ["baked", "customers", "kept", "shift"] ["baked", "customers", "kept"] (defScope s_day_effect) := ⟨rfl, rfl, rfl, by decide +kernel, rfl, by decide +kernel, by decide +kernel⟩
theorem sc_power : FnScope ["effect", "times", "found", "square"] ["effect", "times"] (defScope s_power) := ⟨rfl, rfl, rfl, by decide +kernel, rfl, by decide +kernel, by decide +kernel⟩
theorem sc_InvalidBakery_init : FnScope ["self", "part", "index"] ["self", "part", "index"] (defScope s_InvalidBakery_init) := ⟨rfl, rfl, rfl, by decide +kernel, rfl, by decide +kernel, by decide +kernel⟩
theorem sc_InvalidReport_init : FnScope ["self", "row"] ["self", "row"] (defScope s_InvalidReport_init) := ⟨rfl, rfl, rfl, by decide +kernel, rfl, by decide +kernel, by decide +kernel⟩
theorem sc_validate_number : FnScope ["number", "smallest", "largest"] ["number", "smallest", "largest"] (defScope s_validate_number) := ⟨rfl, rfl, rfl, by decide +kernel, rfl, by decide +kernel, by decide +kernel⟩
theorem sc_validate_amounts : FnScope ["part", "amounts", "index", "amount"] ["part", "amounts"] (defScope s_validate_amounts) := ⟨rfl, rfl, rfl, by decide +kernel, rfl, by decide +kernel, by decide +kernel⟩
theorem sc_Bakery_init : FnScope ["self", "bakes", "demands", "life", "day", "effect", "last"] ["self", "bakes", "demands", "life"] (defScope s_Bakery_init) := ⟨rfl, rfl, rfl, by decide +kernel, rfl, by decide +kernel, by decide +kernel⟩
theorem sc_Bakery_bakes : FnScope ["self"] ["self"] (defScope s_Bakery_bakes) := ⟨rfl, rfl, rfl, by decide +kernel, rfl, by decide +kernel, by decide +kernel⟩
theorem sc_Bakery_demands : FnScope ["self"] ["self"] (defScope s_Bakery_demands) := ⟨rfl, rfl, rfl, by decide +kernel, rfl, by decide +kernel, by decide +kernel⟩
theorem sc_Bakery_life : FnScope ["self"] ["self"] (defScope s_Bakery_life) := ⟨rfl, rfl, rfl, by decide +kernel, rfl, by decide +kernel, by decide +kernel⟩
theorem sc_Bakery_settled_day : FnScope ["self"] ["self"] (defScope s_Bakery_settled_day) := ⟨rfl, rfl, rfl, by decide +kernel, rfl, by decide +kernel, by decide +kernel⟩
theorem sc_Bakery_long_run : FnScope ["self"] ["self"] (defScope s_Bakery_long_run) := ⟨rfl, rfl, rfl, by decide +kernel, rfl, by decide +kernel, by decide +kernel⟩
theorem sc_Bakery_with_life : FnScope ["self", "life"] ["self", "life"] (defScope s_Bakery_with_life) := ⟨rfl, rfl, rfl, by decide +kernel, rfl, by decide +kernel, by decide +kernel⟩
theorem sc_Bakery_baking_more : FnScope ["self", "count"] ["self", "count"] (defScope s_Bakery_baking_more) := ⟨rfl, rfl, rfl, by decide +kernel, rfl, by decide +kernel, by decide +kernel⟩
theorem sc_Bakery_baked_on : FnScope ["self", "day"] ["self", "day"] (defScope s_Bakery_baked_on) := ⟨rfl, rfl, rfl, by decide +kernel, rfl, by decide +kernel, by decide +kernel⟩
theorem sc_Bakery_effect_of : FnScope ["self", "day", "age", "kept"] ["self", "day"] (defScope s_Bakery_effect_of) := ⟨rfl, rfl, rfl, by decide +kernel, rfl, by decide +kernel, by decide +kernel⟩
theorem sc_Bakery_start_of : FnScope ["self", "day", "last", "turns", "rest", "stock"] ["self", "day"] (defScope s_Bakery_start_of) := ⟨rfl, rfl, rfl, by decide +kernel, rfl, by decide +kernel, by decide +kernel⟩
theorem sc_Bakery_stock : FnScope ["self", "day"] ["self", "day"] (defScope s_Bakery_stock) := ⟨rfl, rfl, rfl, by decide +kernel, rfl, by decide +kernel, by decide +kernel⟩
theorem sc_Bakery_missed : FnScope ["self", "day"] ["self", "day"] (defScope s_Bakery_missed) := ⟨rfl, rfl, rfl, by decide +kernel, rfl, by decide +kernel, by decide +kernel⟩
theorem sc_Bakery_thrown : FnScope ["self", "day"] ["self", "day"] (defScope s_Bakery_thrown) := ⟨rfl, rfl, rfl, by decide +kernel, rfl, by decide +kernel, by decide +kernel⟩
theorem sc_Bakery_sold : FnScope ["self", "day"] ["self", "day"] (defScope s_Bakery_sold) := ⟨rfl, rfl, rfl, by decide +kernel, rfl, by decide +kernel, by decide +kernel⟩
theorem sc_Bakery_wished_before : FnScope ["self", "days"] ["self", "days"] (defScope s_Bakery_wished_before) := ⟨rfl, rfl, rfl, by decide +kernel, rfl, by decide +kernel, by decide +kernel⟩
theorem sc_Bakery_totals : FnScope ["self", "days"] ["self", "days"] (defScope s_Bakery_totals) := ⟨rfl, rfl, rfl, by decide +kernel, rfl, by decide +kernel, by decide +kernel⟩
theorem sc_Bakery_shelf : FnScope ["self", "day"] ["self", "day"] (defScope s_Bakery_shelf) := ⟨rfl, rfl, rfl, by decide +kernel, rfl, by decide +kernel, by decide +kernel⟩
theorem sc_rounds_to_settle : FnScope ["effect", "stock", "low", "high", "middle", "now"] ["effect", "stock"] (defScope s_rounds_to_settle) := ⟨rfl, rfl, rfl, by decide +kernel, rfl, by decide +kernel, by decide +kernel⟩
theorem sc_after : FnScope ["effect", "stock", "times"] ["effect", "stock", "times"] (defScope s_after) := ⟨rfl, rfl, rfl, by decide +kernel, rfl, by decide +kernel, by decide +kernel⟩
theorem sc_settled_of : FnScope ["bakery", "last", "whole", "day", "stock", "missed", "thrown"] ["bakery"] (defScope s_settled_of) := ⟨rfl, rfl, rfl, by decide +kernel, rfl, by decide +kernel, by decide +kernel⟩
theorem sc_line_of : FnScope ["words", "day", "baked", "sold", "missed", "thrown"] ["words"] (defScope s_line_of) := ⟨rfl, rfl, rfl, by decide +kernel, rfl, by decide +kernel, by decide +kernel⟩
theorem sc_number_word : FnScope ["number"] ["number"] (defScope s_number_word) := ⟨rfl, rfl, rfl, by decide +kernel, rfl, by decide +kernel, by decide +kernel⟩
theorem sc_report : FnScope ["bakery", "first", "last", "lines", "day", "baked", "numbers", "number"] ["bakery", "first", "last"] (defScope s_report) := ⟨rfl, rfl, rfl, by decide +kernel, rfl, by decide +kernel, by decide +kernel⟩
theorem sc_number_of : FnScope ["word", "digits", "digit"] ["word"] (defScope s_number_of) := ⟨rfl, rfl, rfl, by decide +kernel, rfl, by decide +kernel, by decide +kernel⟩
theorem sc_parse_report : FnScope ["text", "head", "lines", "found", "row", "line", "numbers", "passed", "width", "number"] ["text"] (defScope s_parse_report) := ⟨rfl, rfl, rfl, by decide +kernel, rfl, by decide +kernel, by decide +kernel⟩
theorem sc_law_start : FnScope ["_law_script", "_law_mixed", "_law_cell"] ["_law_script"] (defScope s_law_start) := ⟨rfl, rfl, rfl, by decide +kernel, rfl, by decide +kernel, by decide +kernel⟩
theorem sc_law_drawn : FnScope ["_law_state", "_law_count", "_law_result", "_law_cell"] ["_law_state", "_law_count"] (defScope s_law_drawn) := ⟨rfl, rfl, rfl, by decide +kernel, rfl, by decide +kernel, by decide +kernel⟩
theorem sc_law_same : FnScope ["_law_result", "_law_expected", "_law_k"] ["_law_result", "_law_expected"] (defScope s_law_same) := ⟨rfl, rfl, rfl, by decide +kernel, rfl, by decide +kernel, by decide +kernel⟩
theorem sc_law_outcome : FnScope ["_law_work", "e"] ["_law_work"] (defScope s_law_outcome) := ⟨rfl, rfl, rfl, by decide +kernel, rfl, by decide +kernel, by decide +kernel⟩
theorem sc_law_amounts : FnScope ["_law_state", "_law_size", "_law_high", "_law_k"] ["_law_state", "_law_size", "_law_high"] (defScope s_law_amounts) := ⟨rfl, rfl, rfl, by decide +kernel, rfl, by decide +kernel, by decide +kernel⟩
theorem sc_law_grouped : FnScope ["_law_number_here", "_law_digits", "_law_groups"] ["_law_number_here"] (defScope s_law_grouped) := ⟨rfl, rfl, rfl, by decide +kernel, rfl, by decide +kernel, by decide +kernel⟩
theorem sc_law_line : FnScope ["_law_words", "_law_text", "_law_k"] ["_law_words"] (defScope s_law_line) := ⟨rfl, rfl, rfl, by decide +kernel, rfl, by decide +kernel, by decide +kernel⟩
theorem sc_law_number : FnScope ["_law_text", "_law_one", "_law_digits"] ["_law_text"] (defScope s_law_number) := ⟨rfl, rfl, rfl, by decide +kernel, rfl, by decide +kernel, by decide +kernel⟩
theorem sc_law_read : FnScope ["_law_text", "_law_lines", "_law_rows", "_law_row", "_law_line_here", "_law_numbers", "_law_begin", "_law_end", "_law_number_here"] ["_law_text"] (defScope s_law_read) := ⟨rfl, rfl, rfl, by decide +kernel, rfl, by decide +kernel, by decide +kernel⟩
theorem sc_law_changed : FnScope ["_law_state", "_law_text", "_law_at", "_law_branch", "_law_k", "_law_figures", "_law_character", "_law_lines", "_law_row", "_law_extra", "_law_some"] ["_law_state", "_law_text"] (defScope s_law_changed) := ⟨rfl, rfl, rfl, by decide +kernel, rfl, by decide +kernel, by decide +kernel⟩
theorem sc_law : FnScope ["_law_script", "_law_state", "_law_turn", "_law_high", "_law_size", "_law_bakes", "_law_demands", "_law_bakery", "_law_first", "_law_last", "_law_lines", "_law_day", "_law_numbers", "_law_number_here", "_law_text", "_law_change", "_law_works", "_law_work"] ["_law_script"] (defScope s_law) := ⟨rfl, rfl, rfl, by decide +kernel, rfl, by decide +kernel, by decide +kernel⟩
end G57
end
section
set_option maxRecDepth 100000
set_option maxHeartbeats 4000000
namespace G57
open PySem PySem.Spec PyProof.Rows L2
set_option maxHeartbeats 0
abbrev Rrow : PySem.W.OpenRow := PySem.W.OpenLaw.row PySem.Challenge.rw_staleloaves_k47_reports
abbrev hkL : PySem.W.Hook := hookT 6 exL fnL tfL
def obL (s : PySem.W.SharedT) : AlA := obsT 6 exL fnL tfL (HandSHeadRun.getT s)
theorem obL_eq (s : PySem.W.SharedT) : obL s = hkL.obs s.abs := obsT_eq (HandSHeadRun.getT_eq s)
def looseL : List Str := (["_wall", "__name__", "Effect", "day_effect", "power", "LoafError", "InvalidBakery", "InvalidNumber", "InvalidReport", "MAX_AMOUNT", "MAX_DAY", "validate_number", "validate_amounts", "Bakery", "rounds_to_settle", "after", "settled_of", "MAX_LINES", "DIGITS", "WIDTHS", "line_of", "number_word", "report", "number_of", "parse_report", "_law_start", "_law_drawn", "_law_same", "_law_outcome", "_law_amounts"] : List Str) ++ (["_law_grouped", "_law_line", "_law_number", "_law_read", "_law_changed"] : List Str)
theorem runL (w : World) : HandSHeadRun.RunEq Rrow (PySem.W.view Rrow.prog [39]) hkL obL 6000 looseL w := by
  intro os
  kernel_rfl
end G57
end
section
set_option maxRecDepth 100000
set_option maxHeartbeats 4000000
/-! XLcX: a list comprehension whose step may raise. -/
namespace G57
open PySem PySem.Spec PyProof.Rows L2
/-! ### what is asked where the block's code lets an exception out -/
def errX (M : Model) (A : Around) (E : Value → Shared → Prop) (ce : Env) (x : Value) (s' : Shared) : Prop :=
  ∃ m, s'.heap.Ns ce.locals m ∧ ∀ h', Heap.SameBut ce.locals s'.heap h' → wpAny M A (passOn "comprehension.variables-let-go" x ce : Sem Value) (fun _ _ => False) E { s' with heap := h' }
def postX (M : Model) (A : Around) (E : Value → Shared → Prop) (Q : Value → Shared → Prop) (acc : Value) (ce : Env) (r : Result) (s' : Shared) : Prop := match r with
  | .ok _ => ∃ m, s'.heap.Ns ce.locals m ∧ ∀ h', Heap.SameBut ce.locals s'.heap h' → Q acc { s' with heap := h' }
  | .error x => errX M A E ce x s'
theorem note_same {ce env : Env} {e : Value} (h : ce.frame = env.frame) : noteFrame e ce = noteFrame e env := by
  unfold noteFrame PySem.frameOf
  rw [h]
theorem frames_drop {h h2 B B2 : Heap} {C : Addr} (cb : B.get? C ≠ none) (k : ∀ b, b ≠ C → h2.get? b = h.get? b) (n : ∀ b, B.get? b = none → B2.get? b = none) : ∀ l : List Env, h.FunFrames B l → h2.FunFrames B2 l
  | [], _ => trivial
  | _ :: r, ⟨hk, ⟨L, o, hf, hn, ho, hd⟩, hr⟩ => ⟨hk, ⟨L, o, hf, n L hn, (k L fun z => cb (z ▸ hn)).trans ho, hd⟩, frames_drop cb k n r hr⟩
section
variable {X : Cx}
theorem xe_comp {W : WX} {E : XK} (hs : X.stack = X.env :: X.outer) (hf : X.env.frame = some X.env.locals) (tk : Takes X W) (hE : ∀ cls d σ H, E cls d H → W cls d σ H) {pins : List (Addr × Obj)} {σ : L2.St} {HA H : Hp} {sA s s' : Shared} {fp : List Addr} {ce : Env} {e : Value}
    (IA : Inv X pins σ HA sA) (cf : ce.frame = X.env.frame) (u1 : Un (frs X.stack) fp HA H sA.heap s.heap) (o1 : s.os = sA.os) (ns : ∃ m, s.heap.Ns ce.locals m) (cfree : H ce.locals = none) (cnf : ce.locals ∉ frs X.stack) (cnew : sA.heap.get? ce.locals = none)
    (hch : ∀ b ∈ fp, (b ∈ X.ex ∨ X.s_0.heap.objs.size ≤ b) ∧ b ≠ X.env.locals ∧ (∀ x c, X.env.cells.lookup x = some c → c ≠ b) ∧ ∀ p ∈ X.pn ++ pins, p.1 ≠ b)
    (c : L2.CX X.prog X.w X.stack H s E e s') : notedBy (model X.prog X.w) X.A ce (errX (model X.prog X.w) X.A X.xe ce) e s' := by
  obtain ⟨a, B, H', cls, d, rfl, fl, hok, ub, na, os, ag, hE0⟩ := c
  have hfr : X.A.frames = some (X.env :: X.outer) := by rw [IA.ok.frames, hs]
  obtain ⟨m, hns⟩ := ns
  obtain ⟨C, hC⟩ : ∃ C, C = ce.locals := ⟨_, rfl⟩
  unfold errX
  rw [← hC] at hns cfree cnf cnew ⊢
  obtain ⟨oC, esC, epC, hCo, hCr⟩ := id hns
  have inB : B.get? C = some oC := ub.keep C oC hCo cfree cnf
  have cb : B.get? C ≠ none := by rw [inB]; exact Option.some_ne_none _
  have nC : ∀ {b : Addr}, B.get? b = none → b ≠ C := fun {b} n z => cb (z ▸ n)
  show wpAny _ _ (noteFrame (.ref a) ce) _ _ _
  rw [note_same cf]
  rw [hs] at fl
  refine HandSPX.looks_onZ Zc.steady hfr hf fl fun h1 hh up1 => ?_
  refine ⟨m, hns.at fun o q => ?_, fun h2 sb => ?_⟩
  · rw [hCo] at q
    cases q
    exact hh.1 _ _ inB
  have k2 : ∀ b, b ≠ C → h2.get? b = h1.get? b := fun b hb => sb.2 b hb
  obtain ⟨B2, r1, r2⟩ := restrict B fun b => decide (b ≠ C)
  have b2k : ∀ b, b ≠ C → B2.get? b = B.get? b := fun b hb => r1 b (decide_eq_true hb)
  have b2C : B2.get? C = none := r2 C (by simp)
  have b2n : ∀ b, B.get? b = none → B2.get? b = none := fun b hb => (b2k b (nC hb)).trans hb
  have b2i : ∀ b o, B2.get? b = some o → b ≠ C ∧ B.get? b = some o := fun b o q => by
    by_cases hb : b = C
    · rw [hb, b2C] at q
      cases q
    · exact ⟨hb, (b2k b hb).symm.trans q⟩
  obtain ⟨g1, g2, g3, oe, vs, T, oT, ts, he, hz, hd, e1, nT, neT, hT, hdT, e3⟩ := hh
  have held : HandSPX.HeldZ B2 (X.env :: X.outer) a (Zc cls d) X.env.locals h2 := by
    refine ⟨fun b o q => ?_, b2n a g2, frames_drop cb k2 b2n _ g3, oe, vs, T, oT, ts, (k2 a (nC g2)).trans he, hz, hd, e1, b2n T nT, neT, (k2 T (nC nT)).trans hT, hdT, e3⟩
    obtain ⟨hb, q'⟩ := b2i b o q
    exact (k2 b hb).trans (g1 b o q')
  have he2 : h2.get? a = some oe := (k2 a (nC g2)).trans he
  unfold PySem.passOn
  refine wpAny_bind (wpAny_field he2 hd e1 ?_)
  rw [if_neg (show ¬ ((Value.ref T == Value.none) = true) from by simp)]
  have fin : wpAny (model X.prog X.w) X.A (setFlight (.ref a) ce.frame) (fun _ s4 => wpAny (model X.prog X.w) X.A (throw (.ref a) : Sem Value) (fun _ _ => False) X.xe s4) X.xe { s' with heap := h2 } := by
    rw [cf, hf]
    refine HandSPX.setFlight_onZ held fun h3 held3 up3 => wpAny_throw (tk _ _ ?_)
    obtain ⟨G, q1, q2⟩ := restrict h3 fun b => decide (b ≠ C) && ((B.get? b).isSome || decide (b ∈ frs X.stack))
    have gB : ∀ b o, b ≠ C → B.get? b = some o → G.get? b = some o := fun b o hb q => by
      rw [q1 b (by simp [hb, q])]
      exact held3.1 b o ((b2k b hb).trans q)
    have gF : ∀ b, b ∈ frs X.stack → G.get? b = h3.get? b := fun b hb => q1 b (by
      have : b ≠ C := fun z => cnf (z ▸ hb)
      simp [this, hb])
    have og : ∀ b o, G.get? b = some o → h3.get? b = some o ∧ b ≠ C ∧ ((B.get? b).isSome = true ∨ b ∈ frs X.stack) := fun b o q => by
      cases z : (decide (b ≠ C) && ((B.get? b).isSome || decide (b ∈ frs X.stack))) with
      | false => rw [q2 b z] at q; cases q
      | true =>
        rw [q1 b z] at q
        obtain ⟨z1, z2⟩ := Bool.and_eq_true_iff.mp z
        exact ⟨q, of_decide_eq_true z1, by simpa [Bool.or_eq_true] using z2⟩
    have oldC : ∀ {b : Addr} {o : Obj}, sA.heap.get? b = some o → b ≠ C := fun {b o} q z => by
      rw [z, cnew] at q
      cases q
    have slotF : ∀ b o, s.heap.get? b = some o → b ∈ frs X.stack → ∃ sl, G.get? b = some { o with slots := sl } := fun b o q hb => by
      obtain ⟨sl, z⟩ := ub.slot b o q hb
      have nr : ∀ vs, ({ o with slots := sl } : Obj).data ≠ .fields vs := by
        have hb' : b ∈ (X.env :: X.outer).filterMap (·.frame) := by rw [← hs]; exact hb
        obtain ⟨_, o2, ho2, hd2⟩ := fl.2.2.1.mem hb'
        rw [z] at ho2
        cases ho2
        exact hd2
      obtain ⟨sl1, z1⟩ := up1 b _ z nr
      have z2 : h2.get? b = _ := (k2 b fun w => cnf (w ▸ hb)).trans z1
      obtain ⟨sl3, z3⟩ := up3 b _ z2 nr
      exact ⟨sl3, by rw [gF b hb]; exact z3⟩
    have U : Un (frs X.stack) fp HA H' sA.heap G := {
      keep := fun b o q n hb hx => gB b o (oldC q) (ub.keep b o (u1.keep b o q n hb hx) (u1.free b o q n hx) hb)
      slot := fun b o q n hb hx => by
        obtain ⟨sl, z⟩ := u1.slot b o q n hb hx
        obtain ⟨sl2, z2⟩ := slotF b _ z hb
        exact ⟨sl2, z2⟩
      free := fun b o q n hx => by
        obtain ⟨sl, z⟩ := u1.any q n hx
        exact ub.free b _ z (u1.free b o q n hx)
      there := fun b o q hx => by
        obtain ⟨o2, z⟩ := u1.there b o q hx
        by_cases hb : b ∈ frs X.stack
        · obtain ⟨sl, z2⟩ := slotF b o2 z hb
          exact ⟨_, z2⟩
        · obtain ⟨o3, z3⟩ := ub.there b o2 z hb
          exact ⟨o3, gB b o3 (oldC q) z3⟩
      tups := fun b xs q => ub.tups b xs (u1.tups b xs q)
      frzs := fun b o u q => ub.frzs b o u (u1.frzs b o u q)
      tbls := fun b ps q => by
        obtain ⟨m1, z1⟩ := u1.tbls b ps q
        obtain ⟨m2, z2⟩ := ub.tbls b _ z1
        exact ⟨m1 ++ m2, by rw [z2, Array.append_assoc]⟩ }
    have hC' : H' C = none := ub.free C oC hCo cfree
    have hok2 : HOk X.prog X.w H' G := fun b o q => by
      have nb : ∀ {x : Addr} {u : HO}, H' x = some u → x ≠ C := fun {x u} z w => by
        rw [w, hC'] at z
        cases z
      exact (hok b o q).stay (fun x v hx y => gB x v (hx.elim (fun z => z ▸ nb q) fun z => nb z) y) (fun _ z => z) (fun _ _ z => z)
    refine ⟨a, B2, { s' with heap := G }, pins, σ, H', cls, d, rfl, IA.call' (ch := fp) (os.trans o1) U hok2 ag hch, fun b o q hb => ?_, Heap.UpToSlots.of_keeps fun b o q => (og b o q).1, .inr (.inr (by rw [hs]; exact held3)), na, rfl, ag, hE _ _ _ _ hE0⟩
    obtain ⟨z, hbC, hy⟩ := og b o q
    rcases hy with hy | hy
    · obtain ⟨o', y⟩ := Option.isSome_iff_exists.mp hy
      have w := held3.1 b o' ((b2k b hbC).trans y)
      rw [z] at w
      cases w
      exact (b2k b hbC).trans y
    · exact absurd hy hb
  first
    | exact wpAny_bind (wpAny_pure (wpAny_bind fin))
    | exact wpAny_bind fin
end
/-! ### the comprehension; a block's exceptions go where xe says -/
abbrev blkX (X : Cx) (s : Shared) (H : Hp) (scope : Scope) (ce : Env) (fp : List Addr) (xe : Value → Shared → Prop) : Cx := { X.blk s H scope ce fp with xe := xe }
theorem comp_freeX {M : Model} {A : Around} {E : Value → Shared → Prop} {s : Shared} {env : Env} {e : Expr} {scope : Scope} {pos : Pos} {newAcc first : Sem Value} {g : Comprehension} {gs : List Comprehension} {cl : List (Str × Addr)} {Q : Value → Shared → Prop}
    (cs : clausesOf e = g :: gs) (fo : ∀ x, foldedSetIterable g.iter env x = pure x) (clo : closureFor scope env = pure cl) (kind : scope.kind = .function) (nam : ∀ x ∈ scope.names, x.2 = .local → scope.names.lookup x.1 = some .local)
    (h : wpAny M A first (fun x sa => wpAny M A (pyIter x) (fun it sb => wpAny M A newAcc (fun acc sc => wpAny M A (newFunctionEnv scope env.globals cl [] env.qual none .none (some env)) (fun ce sd =>
      codeAny M A (.compStart e 0 it acc { ce with scope := relabel scope env }) (postX M A E Q acc { ce with scope := relabel scope env }) sd) E sc) E sb) E sa) E s) : wpAny M A (comprehension e scope env pos newAcc false first none) Q E s := by
  unfold comprehension; rw [clo, cs]
  refine wpAny_bind (wpAny_mono h (fun x sa ha => wpAny_bind (wpAny_standAt (wpAny_bind (wpAny_of_eq (fo x) (wpAny_bind (wpAny_holding (wpAny_mono ha (fun it sb hb => wpAny_standIf (wpAny_bind (wpAny_mono hb (fun acc sc hc => wpAny_bind (wpAny_pure (wpAny_bind (wpAny_mono hc (fun ce sd hd => ?_) fun _ _ z => z)))) fun _ _ z => z))) fun _ _ z => z))))))) fun _ _ z => z)
  dsimp only
  have loc : ∀ x ∈ (scope.names.filter fun x => (x.2 == .local || x.2 == .cell) && x.1 != (".0" : Str)).reverse, x.2 = .local → Env.kindOf { ce with scope := relabel scope env } x.1 = some .local := fun x hx hl => lookup_relabel_local (nam x (List.mem_filter.mp (List.mem_reverse.mp hx)).1 hl)
  refine wpAny_holding (wpAny_bind (wpAny_attempt (wpAny_holding (wpAny_run (codeAny_mono hd fun r se hr => ?_)))))
  cases r with
  | ok f =>
    obtain ⟨m, hn, hr⟩ := hr
    exact wpAny_bind (wpAny_holding (wpAny_comp_letGo (cenv := { ce with scope := relabel scope env }) kind _ se m loc hn fun h' m' _ sb => wpAny_pure (hr h' sb)))
  | error x =>
    obtain ⟨m, hn, hr⟩ := hr
    exact wpAny_bind (wpAny_holding (wpAny_comp_letGo (cenv := { ce with scope := relabel scope env }) kind _ se m loc hn fun h' m' _ sb => wpAny_mono (hr h' sb) (fun _ _ f => f.elim) fun _ _ y => y))
section
variable {X : Cx} {elt tg iter : Expr} {ifs : List Expr} {scope : Scope} {own : List (Str × Nat)} {pos pos' : Pos} {wi : TI} {g : TG} {tt : TT} {te : TE} {E : XK}
def BlkX (X : Cx) (E : XK) (scope : Scope) (tg : Expr) (ifs : List Expr) (elt : Expr) (g : TG) (tt : TT) (te : TE) : Prop :=
  ∀ (s0 : Shared) (H0 : Hp) (C : Addr) (cl : List (Str × Addr)) (fp : List Addr) (xe : Value → Shared → Prop), Passes (L2.CX X.prog X.w) (blkX X s0 H0 scope (compEnvC scope cl C X.env) fp xe) E →
    PG (blkX X s0 H0 scope (compEnvC scope cl C X.env) fp xe) tg g ∧ PTs (blkX X s0 H0 scope (compEnvC scope cl C X.env) fp xe) ifs tt ∧ PE (blkX X s0 H0 scope (compEnvC scope cl C X.env) fp xe) elt te
theorem lcX {pins : List (Addr × Obj)} {s : Shared} {σ : L2.St} {H : Hp} {Q : VK} {Qf : Value → Shared → Prop} (calm : X.calm = true) (nd : X.N.Nodup) (I : Inv X pins σ H s) (walk : PI X tg iter wi) (ok : BlkOk X.N X.env.scope scope own)
    (hs : X.stack = X.env :: X.outer) (hf : X.env.frame = some X.env.locals) (tk : Takes X fun cls d _ H => E cls d H) (blk : BlkX X E scope tg ifs elt g tt te) (fold : ∀ x, foldedSetIterable iter X.env x = pure x) (rd : tLc wi g tt te (own.map (·.2)) σ H Q)
    (out : ∀ D C s' m H', Inv X pins σ H' s' → Q (.ref D) H' → s'.heap.Ns C m → FpOk X pins H' C → postX (model X.prog X.w) X.A X.xe Qf (.ref D) (compEnvC scope (cellsFrom (C + 1) scope.names (cloFrom X.env.cells scope.names [])) C X.env) (.ok .next) s') :
    wpAny (model X.prog X.w) X.A (comprehension (.ListComp elt [⟨tg, iter, ifs, 0⟩] scope pos) scope X.env pos' (newList []) false (eval iter X.env) none) Qf X.xe s := by
  have caught : ∀ y ∈ scope.names, y.2 = .free → ∃ c, X.env.cells.lookup y.1 = some c := fun y hy e => (ok.free y hy e).elim (fun z => I.ok.has _ (.inl z)) fun z => I.ok.has _ (.inr z)
  refine comp_freeX rfl fold (closure_ok caught) ok.kind (fun y hy e => (ok.uniq y hy).trans (congrArg some e)) (thn (walk.run pins s σ H _ I rd) fun xv s1 hx => thn hx fun itv s2 hw => ?_)
  obtain ⟨it, fp, tn, J, H2, rfl, I2, T, at0, fp0, turns⟩ := hw
  refine wpAny_newObj_type (newEnv_comp ?_) (by show 0 ≤ sizeLine; decide)
  -- the list that is made
  obtain ⟨D, hD⟩ : ∃ D, D = s2.heap.objs.size := ⟨_, rfl⟩
  rw [← hD]
  have newD : H2 D = none := I2.hok.fresh (by rw [hD]; exact Nat.le_refl _)
  obtain ⟨W, ⟨m0, start⟩, turn⟩ := turns D newD
  obtain ⟨sA, hA⟩ : ∃ sA : Shared, sA = { s2 with heap := s2.heap.push { cls := .type "list", data := .seq ([] : List Value).toArray } } := ⟨_, rfl⟩
  have hpA : sA.heap = s2.heap.push { cls := .type "list", data := .seq ([] : List Value).toArray } := congrArg Shared.heap hA
  have keepA : ∀ b o, s2.heap.get? b = some o → sA.heap.get? b = some o := fun b o e => by
    rw [hpA]
    exact Heap.get?_push_of_some _ e
  obtain ⟨HA, hHA⟩ : ∃ HA : Hp, HA = upd H2 D (.lst []) := ⟨_, rfl⟩
  rw [← hHA] at start
  have IA : Inv X pins σ HA sA := by
    subst hHA hA
    exact I2.laid (t' := s2.toks) keepA (by rw [hD]; exact Nat.le_refl _) ⟨Nat.zero_le _, [], 0, .nil, by rw [hD]; exact Heap.get?_push_size _ rfl⟩
  have old : ∀ b ∈ fp, b < s2.heap.objs.size := fun b hb => let ⟨o, e, _⟩ := T.obj _ _ at0 b hb; Heap.lt_size e
  have fpA : ∀ b ∈ fp, FpOk X pins HA b ∧ b < sA.heap.objs.size := fun b hb => by
    have lt := old b hb
    have z := fp0 b hb
    refine ⟨⟨by rw [hHA, upd_ne (by rw [hD]; exact Nat.ne_of_lt lt)]; exact z.1, z.2⟩, ?_⟩
    rw [hpA, Heap.size_push]
    exact Nat.lt_succ_of_lt lt
  have atA : tn 0 sA.heap := T.keep _ _ _ at0 fun b _ o e => keepA b o e
  have IB := block_start IA ok nd fpA
  rw [← hA]
  show codeAny _ _ (.compStart (.ListComp elt [⟨tg, iter, ifs, 0⟩] scope pos) 0 (.ref it) (.ref D) (compEnvC scope (cellsFrom (sA.heap.objs.size + 1) scope.names (cloFrom X.env.cells scope.names [])) sA.heap.objs.size X.env)) (postX (model X.prog X.w) X.A X.xe Qf (.ref D) (compEnvC scope (cellsFrom (sA.heap.objs.size + 1) scope.names (cloFrom X.env.cells scope.names [])) sA.heap.objs.size X.env)) { sA with heap := pushCells (sA.heap.push { cls := .type "dict", data := .dict #[] }) scope.names }
  have untr : ∀ b ∈ fp, HA b = none := fun b hb => (fpA b hb).1.1
  obtain ⟨ce, hce⟩ : ∃ ce : Env, ce = compEnvC scope (cellsFrom (sA.heap.objs.size + 1) scope.names (cloFrom X.env.cells scope.names [])) sA.heap.objs.size X.env := ⟨_, rfl⟩
  have ceL : ce.locals = sA.heap.objs.size := by rw [hce] <;> rfl
  have ceF : ce.frame = X.env.frame := by rw [hce] <;> rfl
  obtain ⟨xb, hxb⟩ : ∃ xb : Value → Shared → Prop, xb = notedBy (model X.prog X.w) X.A ce (errX (model X.prog X.w) X.A X.xe ce) := ⟨_, rfl⟩
  have newC : sA.heap.get? ce.locals = none := by
    rw [ceL]
    cases q : sA.heap.get? sA.heap.objs.size with
    | none => rfl
    | some o => exact absurd (Heap.lt_size q) (Nat.lt_irrefl _)
  have offC : ce.locals ∉ frs X.stack := fun z => by
    rw [ceL] at z
    rcases List.mem_cons.mp (IA.stkSub _ z) with w | w
    · exact absurd w (Nat.ne_of_gt IA.lt)
    · exact IA.nofs (Nat.le_refl _) w
  have hchA : ∀ b ∈ fp, (b ∈ X.ex ∨ X.s_0.heap.objs.size ≤ b) ∧ b ≠ X.env.locals ∧ (∀ x c, X.env.cells.lookup x = some c → c ≠ b) ∧ ∀ p ∈ X.pn ++ pins, p.1 ≠ b := fun b hb => ⟨(fpA b hb).1.2.2.2.1, (fpA b hb).1.2.1, (fpA b hb).1.2.2.2.2.1, (fpA b hb).1.2.2.2.2.2⟩
  have pas : Passes (L2.CX X.prog X.w) (blkX X sA HA scope ce fp xb) E := fun pl σ1 H1 s1 e s2 J1 c1 => by
    show xb e s2
    rw [hxb]
    obtain ⟨mC, hnC, _⟩ := J1.loc
    exact xe_comp hs hf tk (fun _ _ _ _ h => h) IA ceF J1.base J1.os ⟨mC, hnC⟩ J1.free offC newC hchA c1
  rw [hce] at pas
  obtain ⟨pg, pt, pe⟩ := blk sA HA sA.heap.objs.size (cellsFrom (sA.heap.objs.size + 1) scope.names (cloFrom X.env.cells scope.names [])) fp xb pas
  rw [← hce] at IB pg pt pe ⊢
  obtain ⟨sB, hB⟩ : ∃ sB : Shared, sB = { sA with heap := pushCells (sA.heap.push { cls := .type "dict", data := .dict #[] }) scope.names } := ⟨_, rfl⟩
  rw [← hB] at IB ⊢
  replace IB : Inv (blkX X sA HA scope ce fp xb) [] (wipe σ (own.map (·.2))) HA sB := IB.toTry _
  subst hxb
  have atB : tn 0 sB.heap := T.keep _ _ _ atA fun b _ o e => by
    rw [hB]
    exact pushCells_keeps _ _ _ _ (Heap.get?_push_of_some _ e)
  have own_fp : ∀ {σ' : L2.St} {H' : Hp} {s' : Shared}, Inv (blkX X sA HA scope ce fp (notedBy (model X.prog X.w) X.A ce (errX (model X.prog X.w) X.A X.xe ce))) [] σ' H' s' → (∀ b ∈ fp, H' b = none) → ∀ b ∈ fp, FpOk (blkX X sA HA scope ce fp (notedBy (model X.prog X.w) X.A ce (errX (model X.prog X.w) X.A X.xe ce))) [] H' b := fun J' n b hb =>
    ⟨n b hb, (J'.ok.exf b hb).1, J'.ok.exfs b hb, .inl hb, fun x c e => (J'.ok.exf b hb).2 x c e, fun p hp => (nomatch (show p ∈ ([] : List (Addr × Obj)) from hp))⟩
  have back : ∀ {σ' : L2.St} {H' : Hp} {s' : Shared}, Inv (blkX X sA HA scope ce fp (notedBy (model X.prog X.w) X.A ce (errX (model X.prog X.w) X.A X.xe ce))) [] σ' H' s' → Inv X pins σ H' s' := fun J' => IA.call' (ch := fp) J'.os J'.base J'.hok J'.bare fun b hb => ⟨(fpA b hb).1.2.2.2.1, (fpA b hb).1.2.1, (fpA b hb).1.2.2.2.2.1, (fpA b hb).1.2.2.2.2.2⟩
  let G : Nat → Shared → Prop := fun n s' => ∃ i H', Inv (blkX X sA HA scope ce fp (notedBy (model X.prog X.w) X.A ce (errX (model X.prog X.w) X.A X.xe ce))) [] (wipe σ (own.map (·.2))) H' s' ∧ tn i s'.heap ∧ (∀ b ∈ fp, H' b = none) ∧ W i n H'
  have loop : codeAny (model X.prog X.w) X.A (.compLoop (.ListComp elt [⟨tg, iter, ifs, 0⟩] scope pos) 0 (.ref it) (.ref D) ce) (postX (model X.prog X.w) X.A X.xe Qf (.ref D) ce) sB := by
    refine compLoop_any G (fun n sC hG => ?_) m0 ⟨0, HA, IB, atB, untr, start⟩
    obtain ⟨i, HC, IC, atC, unC, wC⟩ := hG
    rcases turn i n HC wC with ⟨stop, qq⟩ | ⟨go, Nx, nxt, step⟩
    · refine thnF (T.done (blkX X sA HA scope ce fp (notedBy (model X.prog X.w) X.A ce (errX (model X.prog X.w) X.A X.xe ce))) rfl rfl rfl calm i [] sC _ HC (fun _ _ => False) IC (own_fp IC unC) atC stop) fun r sD ⟨hr, ID⟩ => ?_
      subst hr
      have nC : HC sA.heap.objs.size = none := ceL ▸ ID.free
      obtain ⟨m, hn, _⟩ := ID.loc
      have r := out D sA.heap.objs.size sD m HC (back ID) qq (ceL ▸ hn) (IA.fpOk (Nat.le_refl _) nC)
      rw [hce]
      exact r
    · refine thnF (T.item (blkX X sA HA scope ce fp (notedBy (model X.prog X.w) X.A ce (errX (model X.prog X.w) X.A X.xe ce))) rfl rfl rfl calm i [] sC _ HC (fun _ _ => False) IC (own_fp IC unC) atC go) fun r sD ⟨u, hr, more⟩ => ?_
      subst hr
      refine thnF more fun _ sE ⟨x, HE, IE, rx, yl, atE, unE⟩ => ?_
      have IE' := IE.pinned (own_fp IE unE) (T.obj _ _ atE)
      refine thn (pg.run _ sE _ HE x u _ IE' rx (step x HE yl)) fun _ sF ⟨σF, HF, IF, wip, qF⟩ => ?_
      refine thn (pt.run _ sF σF HF _ IF qF) fun b sK ⟨HK, IK, qK⟩ => ?_
      have closes : ∀ {s' : Shared} {H' : Hp}, Inv (blkX X sA HA scope ce fp (notedBy (model X.prog X.w) X.A ce (errX (model X.prog X.w) X.A X.xe ce))) ([] ++ pinsAt fp sE.heap) σF H' s' → Nx H' → ∃ m, m < n ∧ G m s' := fun {s' H'} J' nx => by
        obtain ⟨m', lt, w'⟩ := nxt H' nx
        have pinned : ∀ b ∈ fp, ∀ o, sE.heap.get? b = some o → s'.heap.get? b = some o ∧ H' b = none := fun b hb o e => by
          have z := J'.pin (b, o) (List.mem_append_right _ (List.mem_append_right _ (mem_pinsAt hb e)))
          exact ⟨z.1, z.2.1⟩
        refine ⟨m', lt, i + 1, H', (J'.unpinned (pins := [])).weak (by rw [← wip, wipe_length]) (fun j v e => ?_), T.keep _ _ _ atE fun b hb o e => (pinned b hb o e).1, fun b hb => ?_, w'⟩
        · rw [← wip] at e
          exact (wipe_some e).1
        · obtain ⟨o, e, _⟩ := T.obj _ _ atE b hb
          exact (pinned b hb o e).2
      cases b with
      | false =>
        simp only [Bool.false_eq_true, if_false] at qK ⊢
        exact closes IK qK
      | true =>
        simp only [if_true] at qK ⊢
        exact thn (pe.run _ sK σF HK _ IK qK) fun z sL ⟨yv, HL, IL, rz, acc, aD, az, nx⟩ => app_ok (X := blkX X sA HA scope ce fp (notedBy (model X.prog X.w) X.A ce (errX (model X.prog X.w) X.A X.xe ce))) IL aD az rz fun sM IM => closes IM nx
  exact codeAny_compStart_list loop (T.self X.A 0 _ _ _ atB loop)
theorem pe_lcX (calm : X.calm = true) (nd : X.N.Nodup) (walk : PI X tg iter wi) (ok : BlkOk X.N X.env.scope scope own) (hs : X.stack = X.env :: X.outer) (hf : X.env.frame = some X.env.locals) (tk : Takes X fun cls d _ H => E cls d H) (blk : BlkX X E scope tg ifs elt g tt te) (fold : ∀ x, foldedSetIterable iter X.env x = pure x := by intro _; rfl) :
    PE X (.ListComp elt [⟨tg, iter, ifs, 0⟩] scope pos) (tLc wi g tt te (own.map (·.2))) := by
  refine ⟨fun pins s σ H Q I h => ?_⟩
  rw [eval_ListComp]
  refine lcX calm nd I walk ok hs hf tk blk fold h fun D C s' m H' I' q hn f => ⟨m, hn, fun h'' sb => ⟨.ref D, H', ?_, rfl, q⟩⟩
  exact I'.turned (t' := s'.toks) (fun b o hb e => (sb.2 b hb).trans e) f.1 f.2.1 f.2.2.2.1 f.2.2.2.2.1 f.2.2.2.2.2
end
end G57
end
section
set_option maxRecDepth 100000
set_option maxHeartbeats 4000000
/-! XLam5: reading of lambdas, of their calls; raising; what stands where only tables change. -/
namespace G57
open PySem PySem.Spec PyProof.Rows L2 LamX NdefX
/-! ### [f(x) for x in xs], f told of the state -/
theorem pe_lcS {X : Cx} {k j : Nat} {x : Str} {spS : SpS} {p pos pos' : Pos} {e tg iter : Expr} {es ifs : List Expr} {scope : Scope} {own : List (Str × Nat)} {wi : TI} {g : TG} {tt : TT} {t : TA}
    (c : CalS X.prog X.w X.K X.mg X.base CX0 k x spS) (hr : Room j X.A) (hk : k ≤ j) (calm : X.calm = true) (nd : X.N.Nodup) (walk : PI X tg iter wi) (ok : BlkOk X.N X.env.scope scope own)
    (hg : ∀ (s : Shared) (H : Hp) (C : Addr) (cl : List (Str × Addr)) (fp : List Addr), PG (X.blk s H scope (compEnvC scope cl C X.env) fp) tg g) (ht : ∀ (s : Shared) (H : Hp) (C : Addr) (cl : List (Str × Addr)) (fp : List Addr), PTs (X.blk s H scope (compEnvC scope cl C X.env) fp) ifs tt)
    (hgl : ∀ (s : Shared) (H : Hp) (C : Addr) (cl : List (Str × Addr)) (fp : List Addr), Gl (X.blk s H scope (compEnvC scope cl C X.env) fp) x) (ha : ∀ (s : Shared) (H : Hp) (C : Addr) (cl : List (Str × Addr)) (fp : List Addr), PA (X.blk s H scope (compEnvC scope cl C X.env) fp) (e :: es) t)
    (hdb : (x == ("__debug__" : Str)) = false := by decide) (he : ∀ env, starEach (e :: es) env = (false, eval e env) :: starEach es env := by intro _; rfl) (hpl : ∀ env, (backTo pos (starEach es env)).any (·.1) = false := by intro _; rfl)
    (fold : ∀ x, foldedSetIterable iter X.env x = pure x := by intro _; rfl) :
    PE X (.ListComp (.Call (.Name x p) (e :: es) [] pos) [⟨tg, iter, ifs, 0⟩] scope pos') (fun σ H Q => tLc wi g tt (tCallS (fun _ s H => CellsK X.env.cells X.N X.env.scope σ s H) spS (fun _ => E0) t) (own.map (·.2)) σ H Q) := by
  refine pe_lcK (tt := fun _ => tt) (te := fun σ => tCallS (fun _ s H => CellsK X.env.cells X.N X.env.scope σ s H) spS (fun _ => E0) t) calm nd walk ok (fun σ pl s0 H0 C cl fp I hf => ⟨hg _ _ _ _ _, ht _ _ _ _ _, ?_⟩) fold
  exact pe_cS (X := X.blk s0 H0 scope (compEnvC scope cl C X.env) fp) c hr hk (hgl _ _ _ _ _) (fun _ _ _ _ J => (inv_cellsK I).kp (kp_blk hf J)) (fun _ _ _ _ _ _ _ h => h.elim) (ha _ _ _ _ _) hdb (he _) (hpl _)
/-! ### a closure called in a try -/
def tClo (X : Cx) (k i : Nat) (W : WX) : TE := fun σ H Q => ∃ f sp, σ[i]? = some (some (.ref f)) ∧ (∀ s, Kp X.s_0 X.H_0 s H → Clo X.prog X.w X.K X.mg X.base k f sp s H) ∧ sp [] H Q (WE W σ)
theorem pe_cloT {X : Cx} {pn : List (Addr × Obj)} {xe : Value → Shared → Prop} {W : WX} {k j i : Nat} {x : Str} {p pos : Pos} (hr : Room j X.A) (hk : k ≤ j) (tk : Takes (X.tr pn xe) W) (hex : X.ex = []) (hN : X.N[i]? = some x) (hv : Vis X.env.scope x)
    (hd : (x == ("__debug__" : Str)) = false := by decide) (hcd : (x == ("__classdict__" : Str)) = false := by decide) : PE (X.tr pn xe) (.Call (.Name x p) [] [] pos) (tClo X k i W) :=
  pe_clo0 (X := X.tr pn xe) (Kn := fun _ s H => Kp X.s_0 X.H_0 s H) hr hk (passAt tk) (fun _ _ _ _ I => kp_of (X := X.tr pn xe) hex I) hN hv hd hcd
theorem r_clo {X : Cx} {k i : Nat} {W : WX} {σ : L2.St} {H : Hp} {Q : VK} {f : Addr} {sp : Sp} {s : Shared} {H0 : Hp} (hs : σ[i]? = some (some (.ref f))) (e1 : X.s_0 = s) (e2 : X.H_0 = H0) (c : Clo X.prog X.w X.K X.mg X.base k f sp s H0) (q : sp [] H Q (WE W σ)) : tClo X k i W σ H Q :=
  ⟨f, sp, hs, fun s' z => by
    rw [e1, e2] at z
    exact c.kp z, q⟩
/-! ### a closure called with arguments that raises nothing; also in a block -/
def tCloA (X : Cx) (k i : Nat) (t : TA) : TE := fun σ H Q => ∃ f sp, σ[i]? = some (some (.ref f)) ∧ (∀ s, Kp X.s_0 X.H_0 s H → Clo X.prog X.w X.K X.mg X.base k f sp s H) ∧ t σ H fun vs H1 => (∃ F, FnF H1 f F) ∧ (∀ s, Kp X.s_0 X.H_0 s H1 → Clo X.prog X.w X.K X.mg X.base k f sp s H1) ∧ sp vs H1 Q fun _ _ _ => False
section
variable {X : Cx} {k j i : Nat} {x : Str} {p pos : Pos} {e : Expr} {es : List Expr} {t : TA}
theorem pe_cloA (hr : Room j X.A) (hk : k ≤ j) (hex : X.ex = []) (hN : X.N[i]? = some x) (hv : Vis X.env.scope x) (ha : PA X (e :: es) t)
    (hd : (x == ("__debug__" : Str)) = false := by decide) (hcd : (x == ("__classdict__" : Str)) = false := by decide)
    (he : starEach (e :: es) X.env = (false, eval e X.env) :: starEach es X.env := by rfl) (hpl : (backTo pos (starEach es X.env)).any (·.1) = false := by rfl) : PE X (.Call (.Name x p) (e :: es) [] pos) (tCloA X k i t) :=
  pe_clo (Kn := fun _ s H => Kp X.s_0 X.H_0 s H) (E := fun _ _ _ _ => False) hr hk (fun σ => passAt LamX.takes0 σ) (fun _ _ _ _ I => kp_of hex I) hN hv ha hd hcd he hpl
theorem pe_cloB {pl : List (Addr × Obj)} {s0 : Shared} {H0 : Hp} {σ0 : L2.St} {scope : Scope} {ce : Env} {fp : List Addr} (I : Inv X pl σ0 H0 s0) (hf : ∀ b ∈ fp, ∃ o, s0.heap.get? b = some o ∧ ∀ v, o.data ≠ .cell v) (hr : Room j X.A) (hk : k ≤ j) (hex : X.ex = []) (hN : X.N[i]? = some x) (hv : Vis (X.blk s0 H0 scope ce fp).env.scope x) (ha : PA (X.blk s0 H0 scope ce fp) (e :: es) t)
    (hd : (x == ("__debug__" : Str)) = false := by decide) (hcd : (x == ("__classdict__" : Str)) = false := by decide)
    (he : starEach (e :: es) ce = (false, eval e ce) :: starEach es ce := by rfl) (hpl : (backTo pos (starEach es ce)).any (·.1) = false := by rfl) : PE (X.blk s0 H0 scope ce fp) (.Call (.Name x p) (e :: es) [] pos) (tCloA X k i t) :=
  pe_clo (X := X.blk s0 H0 scope ce fp) (Kn := fun _ s H => Kp X.s_0 X.H_0 s H) (E := fun _ _ _ _ => False) hr hk (fun σ => passAt LamX.takes0 σ) (fun _ _ _ _ J => (kp_of hex I).tr (kp_blk hf J)) hN hv ha hd hcd he hpl
end
/-- what a call of the closure wants of its arguments -/
def CloR (X : Cx) (k : Nat) (f : Addr) (sp : Sp) (Q : VK) (vs : List V) (H1 : Hp) : Prop := (∃ F, FnF H1 f F) ∧ (∀ s, Kp X.s_0 X.H_0 s H1 → Clo X.prog X.w X.K X.mg X.base k f sp s H1) ∧ sp vs H1 Q fun _ _ _ => False
section
variable {X : Cx} {k i : Nat} {t : TA} {σ : L2.St} {H : Hp} {Q : VK} {f : Addr} {sp : Sp} {s : Shared} {H0 : Hp}
theorem r_cloA (hs : σ[i]? = some (some (.ref f))) (c : Clo X.prog X.w X.K X.mg X.base k f sp X.s_0 X.H_0) (q : t σ H (CloR X k f sp Q)) : tCloA X k i t σ H Q := ⟨f, sp, hs, fun _ z => c.kp z, q⟩
theorem r_cloR {vs : List V} (c : Clo X.prog X.w X.K X.mg X.base k f sp X.s_0 X.H_0) (st : Still X.H_0 H) (q : sp vs H Q fun _ _ _ => False) : CloR X k f sp Q vs H := ⟨let ⟨F, h⟩ := c.fn; ⟨F, h.st st⟩, fun _ z => c.kp z, q⟩
end
/-- a comprehension whose block calls closures -/
theorem pe_lcC {X : Cx} {elt tg iter : Expr} {ifs : List Expr} {scope : Scope} {own : List (Str × Nat)} {pos : Pos} {wi : TI} {g : TG} {tt : TT} {te : TE} (calm : X.calm = true) (nd : X.N.Nodup) (walk : PI X tg iter wi) (ok : BlkOk X.N X.env.scope scope own)
    (blk : ∀ (σ : L2.St) (pl : List (Addr × Obj)) (s0 : Shared) (H0 : Hp) (C : Addr) (cl : List (Str × Addr)) (fp : List Addr), Inv X pl σ H0 s0 → (∀ b ∈ fp, ∃ o, s0.heap.get? b = some o ∧ ∀ v, o.data ≠ .cell v) →
      PG (X.blk s0 H0 scope (compEnvC scope cl C X.env) fp) tg g ∧ PTs (X.blk s0 H0 scope (compEnvC scope cl C X.env) fp) ifs tt ∧ PE (X.blk s0 H0 scope (compEnvC scope cl C X.env) fp) elt te)
    (fold : ∀ x, foldedSetIterable iter X.env x = pure x := by intro _; rfl) : PE X (.ListComp elt [⟨tg, iter, ifs, 0⟩] scope pos) (fun σ H Q => tLc wi g tt te (own.map (·.2)) σ H Q) :=
  pe_lcK (tt := fun _ => tt) (te := fun _ => te) calm nd walk ok (fun σ pl s0 H0 C cl fp I hf => blk σ pl s0 H0 C cl fp I hf) fold
/-! ### raise C("..") -/
def tRz (C : Addr) (E : XK) : TS := fun _ _ H => E (.ref C) none H
theorem ps_rz {X : Cx} {x m : Str} {j : Nat} {p p2 pos pos' : Pos} {C : Addr} {E : XK} {E1 : Value → Shared → Prop} (hc : X.calm = true) (hs : X.stack = X.env :: X.outer) (hf : X.env.frame = some X.env.locals) (hex : X.ex = [])
    (hx : X.xe = fun e s' => wpAny (model X.prog X.w) X.A (leaving X.env e) (fun _ s'' => L2.CX X.prog X.w X.outer X.H_0 X.s_0 E e s'') E1 s')
    (q : PySem.W.excIn X.K C He.veBase "ValueError.__new__" = true ∧ PySem.W.keepIn X.K (.ref C) = true ∧ PySem.W.subIn X.K (.ref C) (.type "BaseException") = some true ∧ PySem.W.typeIn X.K (.ref C) = some (.type "type"))
    (gC : X.mg x = some (.ref C)) (hg : Gl X x) (hdb : (x == ("__debug__" : Str)) = false := by decide) : PS X (.Raise (some (.Call (.Name x p) [.Constant (.str m) j p2] [] pos)) none pos') (tRz C E) :=
  ps_raise hc (takes_of hs hf hex hx) (pmk_own PySem.F.excBase_ValueError q.1 gC q.2.1 (raises_own q.2.2.1 q.2.2.2) hg hdb)
section
variable {σ : L2.St} {H H' : Hp} {Q : VK} {D : Ends} {C : Addr} {E : XK}
theorem r_rz (q : E (.ref C) none H) : tRz C E D σ H := q
/-! ### readings -/
theorem r_lm {T : List (Addr × Str)} {cells : List (Str × Addr)} {d : LamD} {ds : List V} (t : TabsF T H) (q : ∀ (f : Addr) (F : LF) (H1 : Hp), ExtN H H1 → TabsF T H1 → H f = none → Lam H1 f F ds → F.d = d → ofC cells F → Q (.ref f) H1) : tLm T cells d ds σ H Q := ⟨t, q⟩
theorem r_cS {Kn : L2.St → Shared → Hp → Prop} {spS : SpS} {ES : L2.St → XK} {t : TA} (q : t σ H fun vs H1 => ∀ s, Kn σ s H1 → spS s vs H1 Q (ES σ)) : tCallS Kn spS ES t σ H Q := q
theorem a_rep {l : Addr} {xs : List V} {k : Int} (h : H l = some (.lst xs)) (k0 : 0 ≤ k) (k1 : k ≤ 100) (few : xs.length ≤ 100) (q : ∀ p H', Same H H' → H p = none → H' p = some (.lst (List.replicate k.toNat xs).flatten) → Q (.ref p) H') : rRep (.ref l) (.int k) H Q := by
  have big : xs.length * k.toNat ≤ sizeLine := by
    have z : xs.length * k.toNat ≤ 100 * 100 := Nat.mul_le_mul few (by omega)
    exact Nat.le_trans z (by decide)
  exact ⟨l, k, xs, rfl, rfl, h, by omega, by omega, big, fun p hp => q p _ (same_new hp) hp upd_same⟩
/-! ### only tables change -/
theorem at_n {p : Addr} {o : HO} (s : ExtN H H') (n : ∀ ps, o ≠ .tbl ps) (e : H p = some o) : H' p = some o := s _ _ e n
theorem atn_tup {p : Addr} {xs : List V} (s : ExtN H H') (e : H p = some (.tup xs)) : H' p = some (.tup xs) := at_n s (fun _ z => by cases z) e
theorem atn_lst {p : Addr} {xs : List V} (s : ExtN H H') (e : H p = some (.lst xs)) : H' p = some (.lst xs) := at_n s (fun _ z => by cases z) e
theorem atn_ins {p C dx : Addr} {fs : List (Str × V)} (s : ExtN H H') (e : H p = some (.ins C dx fs)) : H' p = some (.ins C dx fs) := at_n s (fun _ z => by cases z) e
theorem sqTn {K : PySem.W.Frag} {p : Addr} {xs : List V} (s : ExtN H H') (e : SqT K H p xs) : SqT K H' p xs := by
  rcases e with (e | ⟨o, e⟩) | e
  · exact .inl (.inl (atn_tup s e))
  · exact .inl (.inr ⟨o, at_n s (fun _ z => by cases z) e⟩)
  · exact .inr e
theorem sqLn {K : PySem.W.Frag} {p : Addr} {xs : List V} (s : ExtN H H') (e : SqL K H p xs) : SqL K H' p xs := by
  rcases e with (e | ⟨o, e⟩) | e
  · exact .inl (.inl (atn_lst s e))
  · exact .inl (.inr ⟨o, at_n s (fun _ z => by cases z) e⟩)
  · exact .inr e
theorem extN_hid {h : Addr} (s : ExtN H H') : ExtN (hid h H) (hid h H') := fun b o e n => by
  unfold hid at e ⊢
  split at e
  · cases e
  · rename_i nb
    rw [if_neg nb]
    exact s b o e n
theorem hatB_n {K : PySem.W.Frag} {h a : Addr} (s : ExtN H H') (w : HatB K H h a) : HatB K H' h a := by
  obtain ⟨ns, p, m, r, e, q, z⟩ := w
  exact ⟨ns, p, m, r, atn_lst s e, sqLn (extN_hid s) q, z⟩
theorem extN_s (s : Same H H') : ExtN H H' := fun b o e _ => s b o e
theorem extN_t {H2 : Hp} (a : ExtN H H') (b : ExtN H' H2) : ExtN H H2 := fun x o e n => b x o (a x o e n) n
theorem tabs_id {T : List (Addr × Str)} (t : TabsF T H) : TabsF T H := t
/-- a closure of a frame that the caller's cells know -/
theorem clo_at_cells {P : Program} {w : World} {K : PySem.W.Frag} {mg : Str → Option Value} {base : Heap} {k j : Nat} {f : Addr} {F : LF} {d : LamD} {ps fr N : List Str} {js : List Nat} {ds : List V} {spl : List (Option V) → Sp} {cells : List (Str × Addr)} {sc : Scope} {s : Shared}
    (L : LOk P w K mg base j d ps fr ds spl) (hk : j ≤ k) (hF : Lam H f F ds) (hd : F.d = d) (o : ofC cells F) (b : capB N sc d.scope fr js = true) (kc : CellsK cells N sc σ s H) : Clo P w K mg base k f (spl (js.map (slotAt σ))) s H := by
  subst hd
  exact clo_of L hk rfl hF (kc.at o b)
end
end G57
end
section
set_option maxRecDepth 100000
set_option maxHeartbeats 4000000
/-! XTry: several except clauses, the last with a name. -/
namespace G57
open PySem PySem.Spec PyProof.Rows L2
/-- except c1: .. except c2 as n: .. -/
def wTwo (K : PySem.W.Frag) (c1 c2 : Value) (i : Nat) (t1 t2 : Addr → Value → Option Addr → TS) (Wout : WX) (D : Ends) : WX := fun cls d σ H =>
  ∃ b, PySem.W.exmOne K cls c1 = some b ∧ (b = true → ∀ a, H a = none → t1 a cls d D σ H) ∧ (b = false → wAs K c2 i t2 Wout D cls d σ H)
section
variable {X : Cx} {x1 x2 n : Str} {c1 c2 : Value} {i : Nat} {body su1 su2 : List Stmt} {b1 b2 : Stmt} {np1 np2 pos pos1 pos2 : Pos} {tb : WX → TS} {t1 t2 : Addr → Value → Option Addr → TS} {Wout : WX}
theorem ps_try_two (hs : X.stack = X.env :: X.outer) (hf : X.env.frame = some X.env.locals) (hN : X.N.Nodup) (hi : X.N[i]? = some n) (hln : X.env.kindOf n = some .local) (hc1 : Names X x1 c1) (hc2 : Names X x2 c2) (tk : Takes X Wout)
    (hb : ∀ (W : WX) (pn : List (Addr × Obj)) (xe : Value → Shared → Prop), Takes (X.tr pn xe) W → PassesOwn (model X.prog X.w) X.A X.env xe → PSs (X.tr pn xe) body (tb W))
    (hsu1 : ∀ (a : Addr) (oe : Obj) (cls : Value) (d : Option Addr) (pn : List (Addr × Obj)), Zc cls d oe → (∃ vs, oe.data = .fields vs) → PSs (X.suite a ((a, oe) :: pn)) (b1 :: su1) (t1 a cls d))
    (hsu2 : ∀ (a : Addr) (oe : Obj) (cls : Value) (d : Option Addr) (pn : List (Addr × Obj)), Zc cls d oe → (∃ vs, oe.data = .fields vs) → PSs (X.suite a ((a, oe) :: pn)) (b2 :: su2) (t2 a cls d)) :
    PS X (.Try body [.ExceptHandler (some (.Name x1 np1)) none (b1 :: su1) pos1, .ExceptHandler (some (.Name x2 np2)) (some n) (b2 :: su2) pos2] [] [] pos) (fun D σ H => tb (wTwo X.K c1 c2 i t1 t2 Wout D) D σ H) := by
  refine ⟨fun pins s σ H D I h => ?_⟩
  have ok := I.ok
  have hfr : X.A.frames = some (X.env :: X.outer) := by rw [ok.frames, hs]
  have hloc : Loc X.env.scope n := .inl hln
  refine wpAny_Try_except ?_
  refine wpAny_mono ((hb (wTwo X.K c1 c2 i t1 t2 Wout D) (X.pn ++ pins) (fun e s₁ => wpAny (model X.prog X.w) X.A (noteFrame e X.env) (fun _ s₂ => wpAny (model X.prog X.w) X.A (setFlight e none) (fun _ s₃ =>
    wpAny (model X.prog X.w) X.A (handleBy e X.env [.ExceptHandler (some (.Name x1 np1)) none (b1 :: su1) pos1, .ExceptHandler (some (.Name x2 np2)) (some n) (b2 :: su2) pos2]) (SP X pins D) X.xe s₃) X.xe s₂) X.xe s₁) (fun u s' xx => ?_) PassesOwn.looking).run [] s σ H D (I.toTry _) h) (fun f s1 hsp => ?_) (fun e s1 he => he)
  · -- the catch
    obtain ⟨a, B, sI, pins', σ', H', cls, d, rfl, J', nb, up, sky, na, os, ag, b, hb1, hyes, hno⟩ := xx
    have J : Inv X pins σ' H' sI := J'.ofTry ok
    have sky' : Sky B (X.env :: X.outer) a (Zc cls d) X.env.locals s'.heap := by rw [← hs]; exact sky
    show wpAny (model X.prog X.w) X.A (noteFrame (.ref a) X.env) _ _ _
    refine Sky.land Zc.steady hfr hf sky' fun h3 fl3 up3 => ?_
    have J3 : Inv X pins σ' H' { s' with heap := h3 } := J.landed nb fl3.1 (up.trans up3) os ag
    obtain ⟨oe3, vs3, he3, hz3, hd3⟩ := fl3.there
    have notFr : ∀ {h : Heap} {o : Obj} {vs : Array Value}, h.FunFrames B (X.env :: X.outer) → h.get? a = some o → o.data = .fields vs → a ∉ frs (X.env :: X.outer) := fun {h o vs} ff e dd hm => by
      obtain ⟨_, o', e', hnf⟩ := ff.mem hm
      rw [e] at e'; cases e'
      exact hnf _ dd
    have nfr := notFr fl3.2.2.1 he3 hd3
    have nL : a ≠ X.env.locals := fun z => nfr (List.mem_filterMap.mpr ⟨X.env, List.mem_cons_self, by rw [hf, z]⟩)
    have nF : a ∉ X.fs := fun hm => by
      obtain ⟨e, he, q⟩ := List.mem_filterMap.mp hm
      exact nfr (List.mem_filterMap.mpr ⟨e, List.mem_cons_of_mem _ he, q⟩)
    have S3 := J3.suite he3 hd3 na nL nF
    have LT : PySem.W.Looks (model X.prog X.w) h3 (typeOf (.ref a)) cls := fun A Q E s k q => wpAny_typeOf_ref (k _ _ he3) (by rw [hz3.1]; exact q)
    have test : ∀ {x : Str} {c : Value} {np : Pos} {Q : Value → Shared → Prop} {E : Value → Shared → Prop}, Names X x c → Q c { s' with heap := h3 } → wpAny (model X.prog X.w) (X.A.mark (some (.ref a))) (eval (.Name x np) X.env) Q E { s' with heap := h3 } := fun {x c np Q E} hc q => by
      obtain ⟨hg, hdbg, hm | ⟨hm, hv, hnn⟩⟩ := hc
      · exact ld_glob (X := X.suite a ((a, oe3) :: (X.pn ++ pins))) S3 hg hm q hdbg
      · exact ld_blt (X := X.suite a ((a, oe3) :: (X.pn ++ pins))) S3 hg hm hv q hnn hdbg
    refine wpAny_handleBy_cons (codeAny_handlers_test ?_) (by intro q; cases q)
    have LM := PySem.W.exm_one (M := model X.prog X.w) (J3.kIn) LT hb1
    refine test hc1 (LM.here ?_)
    cases b with
    | true =>
      refine codeAny_handlers_suite ?_
      refine HandSPX.lands_againZ fl3 fun h4 fl4 up4 => ?_
      have J4 : Inv X pins σ' H' { s' with heap := h4 } := J.landed nb fl4.1 ((up.trans up3).trans up4) os ag
      obtain ⟨oe4, vs4, he4, hz4, hd4⟩ := fl4.there
      have S4 := J4.suite he4 hd4 na nL nF
      refine wpAny_mono ((hsu1 a oe4 cls d (X.pn ++ pins) hz4 ⟨_, hd4⟩).run [] _ _ H' _ S4 (hyes rfl a na)) (fun f s6 hsp => ?_) (fun _ _ z => False.elim z)
      cases f with
      | next =>
        obtain ⟨σ6, H6, S6, q6⟩ := hsp
        exact ⟨_, _, S6.unsuite ok, q6⟩
      | brk =>
        obtain ⟨σ6, H6, S6, q6⟩ := hsp
        exact ⟨_, _, S6.unsuite ok, q6⟩
      | cont =>
        obtain ⟨σ6, H6, S6, q6⟩ := hsp
        exact ⟨_, _, S6.unsuite ok, q6⟩
      | ret u =>
        obtain ⟨v6, σ6, H6, S6, r6, q6⟩ := hsp
        exact ⟨_, _, _, S6.unsuite ok, r6, q6⟩
    | false =>
      obtain ⟨b, hb2, hyes2, hno2⟩ := hno rfl
      show wpAny _ X.A (handleBy (.ref a) X.env [.ExceptHandler (some (.Name x2 np2)) (some n) (b2 :: su2) pos2]) _ _ _
      refine wpAny_handleBy_cons (codeAny_handlers_test ?_) (by intro q; cases q)
      have LM2 := PySem.W.exm_one (M := model X.prog X.w) (J3.kIn) LT hb2
      refine test hc2 (LM2.here ?_)
      cases b with
      | true =>
        refine codeAny_handlers_suite_as ?_
        refine HandSPX.lands_againZ fl3 fun h4 fl4 up4 => ?_
        have J4 : Inv X pins σ' H' { s' with heap := h4 } := J.landed nb fl4.1 ((up.trans up3).trans up4) os ag
        obtain ⟨oe4, vs4, he4, hz4, hd4⟩ := fl4.there
        have S4 := J4.suite he4 hd4 na nL nF
        refine store_ok (X := X.suite a ((a, oe4) :: (X.pn ++ pins))) (v := .ref a) S4 hN hi hloc rfl (fun s5 S5 => ?_) (.inr hln)
        refine wpAny_mono ((hsu2 a oe4 cls d (X.pn ++ pins) hz4 ⟨_, hd4⟩).run [] s5 _ H' _ S5 (hyes2 rfl a na)) (fun f s6 hsp => ?_) (fun _ _ z => False.elim z)
        have end_ : ∀ {σ6 : L2.St} {H6 : Hp} {Q : Shared → Prop}, Inv (X.suite a ((a, oe4) :: (X.pn ++ pins))) [] σ6 H6 s6 → (∀ s7, Inv X pins (σ6.set i none) H6 s7 → Q s7) →
            wpAny (model X.prog X.w) X.A (do bindName X.env n .none; unbindBehindTheSuite X.env n pos2) (fun _ s7 => Q s7) X.xe s6 := fun {σ6 H6 Q} S6 hq => gone_ok (S6.unsuite ok) hN hi hln hq
        cases f with
        | next =>
          obtain ⟨σ6, H6, S6, q6⟩ := hsp
          exact end_ S6 fun s7 J7 => ⟨_, _, J7, q6⟩
        | brk =>
          obtain ⟨σ6, H6, S6, q6⟩ := hsp
          exact end_ S6 fun s7 J7 => ⟨_, _, J7, q6⟩
        | cont =>
          obtain ⟨σ6, H6, S6, q6⟩ := hsp
          exact end_ S6 fun s7 J7 => ⟨_, _, J7, q6⟩
        | ret u =>
          obtain ⟨v6, σ6, H6, S6, r6, q6⟩ := hsp
          exact end_ S6 fun s7 J7 => ⟨_, _, _, J7, r6, q6⟩
      | false =>
        show wpAny _ X.A (handleBy (.ref a) X.env []) _ _ _
        refine wpAny_handleBy_nil ?_
        obtain ⟨k1, k2, k3, oe, vs, T, oT, ts', he, hz, hd, h1, hr⟩ := id fl3
        unfold PySem.passOn
        refine wpAny_bind (wpAny_field he hd h1 ?_)
        rw [if_neg (show ¬ ((Value.ref T == Value.none) = true) from by simp)]
        have fin : wpAny (model X.prog X.w) X.A (setFlight (.ref a) X.env.frame) (fun _ s4 => wpAny (model X.prog X.w) X.A (throw (.ref a) : Sem Flow) (SP X pins D) X.xe s4) X.xe { s' with heap := h3 } := by
          rw [hf]
          refine HandSPX.setFlight_upZ fl3 fun h4 hh4 up4 => wpAny_throw (tk _ _ ?_)
          exact ⟨a, B, sI, pins, σ', H', cls, d, rfl, J, nb, (up.trans up3).trans up4, .inr (.inr (by rw [hs]; exact hh4)), na, os, ag, hno2 rfl⟩
        first
          | exact wpAny_bind (wpAny_pure (wpAny_bind fin))
          | exact wpAny_bind fin
  · cases f with
    | next =>
      obtain ⟨σ', H', J', q⟩ := hsp
      exact wpAny_execs_nil ⟨σ', H', J'.ofTry ok, q⟩
    | brk =>
      obtain ⟨σ', H', J', q⟩ := hsp
      exact ⟨σ', H', J'.ofTry ok, q⟩
    | cont =>
      obtain ⟨σ', H', J', q⟩ := hsp
      exact ⟨σ', H', J'.ofTry ok, q⟩
    | ret u =>
      obtain ⟨v, σ', H', J', r, q⟩ := hsp
      exact ⟨v, σ', H', J'.ofTry ok, r, q⟩
end
end G57
end
section
set_option maxRecDepth 100000
/-! XStar: x, *rest = a list. -/
namespace PySem.W
open PySem PySem.Spec PySem.Calls PyProof.Rows
section
variable {prog : Program} {w : World} {A : Around} {E : Value → Shared → Prop} {s : Shared}
theorem star_items {l : Addr} {items : Array Value} {x : Value} {rest : List Value} {Q : List Value → Shared → Prop} (hl : s.heap.IsList l items) (hh : A.handled = none) (hx : items.toList = x :: rest) (hz : items.size ≤ 16384)
    (h : ∀ (h2 : Heap) tk, Heap.ExtBut s.heap.objs.size s.heap h2 → Q [x, .ref h2.objs.size] { s with heap := h2.push { cls := .type "list", data := .seq rest.toArray }, toks := tk }) : wpAny (model prog w) A (unpackItems (.ref l) 2 (some 1)) Q E s := by
  have hsz : items.size = rest.length + 1 := by
    have := congrArg List.length hx
    simpa using this
  have hlt : l ≠ s.heap.objs.size := by obtain ⟨o, ho, _⟩ := hl; exact Nat.ne_of_lt (Heap.lt_size ho)
  unfold unpackItems
  refine wpAny_bind ?_
  unfold notIterableAtAll
  refine wpAny_bind (wpAny_specialOf hl.typeIs slot_list_iter.lookup ?_)
  refine wpAny_pure ?_
  simp only [Bool.false_eq_true, if_false]
  refine wpAny_bind (wpAny_holding (wpAny_pyIter_list hl ?_))
  refine wpAny_bind (wpAny_holding (kun_draw hlt 1 0 _ _ ⟨_, Heap.get?_push_size _ rfl, rfl, rfl⟩ (hl.push _) (by omega) fun h₁ hit₁ hs₁ => ?_))
  have hl₁ : h₁.IsList l items := (hl.push _).extBut hs₁.extBut hlt
  rw [Nat.zero_add] at hit₁
  have hit₁' := hit₁
  obtain ⟨oi, hoi, _⟩ := hit₁'
  have hl₁' := hl₁
  obtain ⟨ol, hol, _⟩ := hl₁'
  rw [List.drop_zero]
  have hf : items.toList.take 1 = [x] := by rw [hx]; rfl
  rw [hf]
  rw [if_neg (show ¬ ([x].length < 1) from Nat.lt_irrefl 1)]
  refine wpAny_bind (wpAny_holding (kun_collect (s := { s with heap := h₁ }) (T := "list_iterator") (.inr (.inr (.inl rfl))) (Walks.list (A := A.in1) hh s.heap.objs.size l hlt items) (fun j u st => st.1.typeIs) (k := 1) (by omega) ⟨hit₁, hl₁⟩ (Heap.lt_size hoi) (Heap.lt_size hol) (fun h₂ tk hk => ?_) (by rw [sizeLine_eq]; omega)))
  have hr : items.toList.drop 1 = rest := by rw [hx]; rfl
  rw [hr]
  show wpAny _ _ (if rest.length < 2 - 1 - 1 then _ else _) _ _ _
  rw [if_neg (by omega)]
  show wpAny _ _ (newList (rest.take (rest.length - (2 - 1 - 1))) >>= fun d => pure ([x] ++ [d] ++ rest.drop (rest.length - (2 - 1 - 1)))) _ _ _
  have ht : rest.take (rest.length - (2 - 1 - 1)) = rest := List.take_of_length_le (by omega)
  have hd : rest.drop (rest.length - (2 - 1 - 1)) = [] := List.drop_of_length_le (by omega)
  rw [ht, hd]
  have he : Heap.ExtBut s.heap.objs.size s.heap h₂ := fun b o hb e => hk b o hb (hs₁.extBut b o hb (Heap.get?_push_of_some _ e))
  exact wpAny_bind (wpAny_newList (wpAny_pure (h h₂ tk he)) (by rw [sizeLine_eq]; omega))
end
end PySem.W
namespace L2
open PySem PySem.Spec PyProof.Rows
section
variable {X : Cx} {pos : Pos}
/-- (x, *rest) = a list -/
def gStarL (K : PySem.W.Frag) (t : TGs) : TG := fun v σ H Q => ∃ a x xs, v = .ref a ∧ SqL K H a (x :: xs) ∧ xs.length + 1 ≤ 16384 ∧ ∀ D, H D = none → t [x, .ref D] σ (upd H D (.lst xs)) Q
theorem pgs_star {e : Expr} {p : Pos} {es : List Expr} {t : TG} {u : TGs} (h1 : PG X e t) (h2 : PGs X es u)
    (hs : (assignEach (.Starred e p :: es) X.env).map (·.2) = assign e X.env :: (assignEach es X.env).map (·.2) := by rfl) : PGs X (.Starred e p :: es) (gCons t u) := by
  refine ⟨fun pins s σ H vs us Q I r h => ?_⟩
  obtain ⟨v, vr, e1, h⟩ := h
  subst e1
  cases r with
  | cons r rr =>
    rw [hs]
    refine assignInOrder_cons (thn (h1.run pins s σ H _ _ _ I r h) fun _ s1 ⟨σ1, H1, I1, q1⟩ => ?_)
    exact h2.run pins s1 σ1 H1 _ _ Q I1 rr q1
theorem pg_starL {es : List Expr} {k : Nat} {t : TGs} (hc : X.calm = true) (h : PGs X es t)
    (hn : (assignEach es X.env).length = 2 := by rfl) (hst : (assignEach es X.env).findIdx? (·.1) = some 1 := by rfl) : PG X (.Tuple es k pos) (gStarL X.K t) := by
  refine ⟨fun pins s σ H v u Q I r hw => ?_⟩
  obtain ⟨a, x, xs, e1, hq, hl, hw⟩ := hw
  subst e1
  cases r
  obtain ⟨its, rv, pl, hz⟩ := I.list hq
  cases rv with
  | @cons _ y _ ys r0 rr =>
    have hl' : s.heap.IsList a (y :: ys).toArray := by
      obtain ⟨o, m, e, c, d, q⟩ := pl
      exact ⟨o, e, c, m, q⟩
    have yl : ys.length = xs.length := rr.length.symm
    rw [PyProof.Rows.assign_Tuple]
    refine wpAny_bind (wpAny_standAt ?_)
    unfold unpack
    rw [hn, hst]
    refine wpAny_bind (wpAny_holding (PySem.W.star_items hl' (I.ok.hd hc) (x := y) (rest := ys) rfl (by simp; omega) fun h2 tk hx => ?_))
    have I1 : Inv X pins σ H { s with heap := h2, toks := tk } := I.kept fun b o e => hx b o (Nat.ne_of_lt (Heap.lt_size e)) e
    have hf : H h2.objs.size = none := I1.hok.fresh (Nat.le_refl _)
    have I2 : Inv X pins σ (upd H h2.objs.size (.lst xs)) { s with heap := h2.push { cls := .type "list", data := .seq ys.toArray }, toks := tk } := I1.laid (t' := tk) (fun b u e => Heap.get?_push_of_some _ e) (Nat.le_refl _) ⟨by rw [sizeLine_eq]; omega, ys, 0, rr, Heap.get?_push_size _ rfl⟩
    exact h.run pins _ σ _ [x, .ref h2.objs.size] _ Q I2 (.cons r0 (.cons rfl .nil)) (hw _ hf)
end
end L2
end
section
set_option maxRecDepth 100000
set_option maxHeartbeats 4000000
/-! XStep: xs[::k]; xs.pop(i). -/
namespace G57
open PySem PySem.Spec PyProof.Rows L2
/-- each m-th from the first on -/
def eachV (m : Int) (xs : List V) : List V := (sliceRange 0 xs.length m).filterMap fun i => xs[i]?
theorem vals_pick {xs : List V} {its : List Value} (r : Vals xs its) : ∀ l : List Nat, Vals (l.filterMap fun i => xs[i]?) (l.filterMap fun i => its.toArray[i]?)
  | [] => .nil
  | i :: l => by
    have ih := vals_pick r l
    rw [List.filterMap_cons, List.filterMap_cons]
    cases e : xs[i]? with
    | none =>
      have q : its.toArray[i]? = none := by
        rw [List.getElem?_toArray, List.getElem?_eq_none_iff, ← r.length]
        exact List.getElem?_eq_none_iff.mp e
      rw [q]
      exact ih
    | some v =>
      obtain ⟨u, hu, ru⟩ := r.get e
      have q : its.toArray[i]? = some u := by rw [List.getElem?_toArray]; exact hu
      rw [q]
      exact .cons ru ih
theorem pick_m (items : Array Value) {m : Int} (h : 0 < m) : slicePick items none none (some m) = ((sliceRange 0 items.size m).filterMap fun i => items[i]?).toArray := by
  unfold slicePick
  have e : sliceBounds none none (some m) items.size = (0, (items.size : Int), m) := by
    unfold sliceBounds
    have h2 : m > 0 := h
    simp [h2]
  rw [e]
def tStep (K : PySem.W.Frag) (m : Int) (te : TE) : TE := fun σ H Q => te σ H fun x H1 => ∃ a xs, x = .ref a ∧ SqL K H1 a xs ∧ ∀ p, H1 p = none → Q (.ref p) (upd H1 p (.lst (eachV m xs)))
section
variable {X : Cx}
theorem pe_step {e : Expr} {te : TE} {m : Int} {k : Nat} {p1 p3 pos : Pos} (hm : 0 < m) (he : PE X e te) : PE X (.Subscript e (.Slice none none (some (.Constant (.int m) k p1)) p3) pos) (tStep X.K m te) := by
  refine ⟨fun pins s σ H Q I h => ?_⟩
  refine Subscript_ (thn (he.run pins s σ H _ I h) fun v s1 ⟨x, H1, I1, r1, a, xs, ex, hx, q⟩ => ?_)
  subst ex
  cases r1
  have hst : PO X (some (.Constant (.int m) k p1)) (tPart (tC (.int m))) := po_some pe_int
  refine wpAny_Slice (thn (po_none.run pins s1 σ H1 (fun o Z => o = none ∧ Z = H1) I1 ⟨rfl, rfl⟩) fun v1 s2 ⟨l, H2, I2, pl, el, e2⟩ => ?_)
  subst el
  subst e2
  refine thn (po_none.run pins s2 σ H2 (fun o Z => o = none ∧ Z = H2) I2 ⟨rfl, rfl⟩) fun v2 s3 ⟨u, H3, I3, pu, eu, e3⟩ => ?_
  subst eu
  subst e3
  refine thn (hst.run pins s3 σ H3 (fun o Z => o = some m ∧ Z = H3) I3 ⟨m, rfl, rfl, rfl⟩) fun v3 s4 ⟨o, H4, I4, ps, eo, e4⟩ => ?_
  subst eo
  subst e4
  have I5 : Inv X pins σ H4 { s4 with heap := s4.heap.push { cls := .type "slice", data := .fields #[v1, v2, v3] } } := I4.kept (t' := s4.toks) fun b ob z => Heap.get?_push_of_some _ z
  obtain ⟨its, r, ht, hz⟩ := I5.list hx
  have hlen := r.length
  refine tail_any (ops := [.ref a, .ref s4.heap.objs.size]) ht.isList.typeIs (PySem.slot_list_getitem.lookup) ?_ (by with_unfolding_all rfl)
  refine wpAny_getItem_list_slice ht.isList (Heap.IsSliceOf.new _ v1 v2 v3) pl pu ps (fun z => by
    have := Option.some.inj z
    omega) ?_ (by rw [List.size_toArray]; omega)
  have hp := pick_m its.toArray hm
  have hsz := slicePick_size_le its.toArray none none (some m)
  rw [hp] at hsz
  rw [hp]
  rw [List.size_toArray] at hsz ⊢
  have rr := vals_pick r (sliceRange 0 its.length m)
  have el : (sliceRange 0 its.length m).filterMap (fun i => xs[i]?) = eachV m xs := by
    unfold eachV
    rw [hlen]
  rw [el] at rr
  refine ⟨.ref _, _, I5.laid (t' := s4.toks) (o := .lst (eachV m xs)) (fun b ob z => Heap.get?_push_of_some _ z) (Nat.le_refl _) ?_, rfl, q _ (I5.hok.fresh (Nat.le_refl _))⟩
  refine ⟨?_, _, 0, rr, Heap.get?_push_size _ rfl⟩
  rw [rr.length]
  rw [List.size_toArray] at hsz
  omega
end
section
variable {K : PySem.W.Frag} {σ : L2.St} {H : Hp} {Q : VK} {te : TE}
def StepR (K : PySem.W.Frag) (m : Int) (Q : VK) (x : V) (H1 : Hp) : Prop := ∃ a xs, x = .ref a ∧ SqL K H1 a xs ∧ ∀ p, H1 p = none → Q (.ref p) (upd H1 p (.lst (eachV m xs)))
theorem r_step {m : Int} (q : te σ H (StepR K m Q)) : tStep K m te σ H Q := q
theorem a_step {m : Int} {a : Addr} {xs : List V} (h : SqL K H a xs) (q : ∀ p H', Same H H' → H p = none → H' p = some (.lst (eachV m xs)) → Q (.ref p) H') : StepR K m Q (.ref a) H := ⟨a, xs, rfl, h, fun p hp => q p _ (same_new hp) hp upd_same⟩
def Rg3R (R : It → Hp → Prop) (vs : List V) (H1 : Hp) : Prop := ∃ (i j c : Int) (n : Nat), vs = [.int i, .int j, .int c] ∧ RgC i j c n ∧ R (Itc i c n) H1
theorem r_rng3 {ta : TA} {R : It → Hp → Prop} (q : ta σ H (Rg3R R)) : iRng3 ta σ H R := q
theorem r_rng3R {R : It → Hp → Prop} {i j c : Int} (n : Nat) (h : RgC i j c n) (q : R (Itc i c n) H) : Rg3R R [.int i, .int j, .int c] H := ⟨i, j, c, n, rfl, h, q⟩
/-- ints told by their places, over a range with steps -/
theorem lcI_rangeC {lo c : Int} {n j : Nat} {H1 : Hp} (f : Nat → Int) (hn : n ≤ 100000)
    (hs : ∀ i H' (Z : VK), i < n → Same H1 H' → (∀ H4, Same H' H4 → Z (.int (f i)) H4) → SetR j (.int (lo + (i : Nat) * c)) (fun s => te s H' Z) σ)
    (hd : ∀ D H', H1 D = none → Same H1 H' → H' D = some (.lst (((List.range n).map f).map V.int)) → Q (.ref D) H') : LcR (Itc lo c n) (gName j) tYes te [j] σ Q H1 := fun D hD => by
  have st : ∀ i v, Stab (fun H => (fun (i : Nat) (v : V) (_ : Hp) => v = V.int (f i)) i v H) := fun _ _ => Stab.triv
  refine ⟨fun i m H => m + i = n ∧ LcP H1 D (fun i v _ => v = .int (f i)) i H, ⟨n, Nat.add_zero n, lcP_0 hD⟩, fun i m H hw => ?_⟩
  obtain ⟨e, p⟩ := hw
  cases m with
  | zero =>
    have ei : i = n := by omega
    subst ei
    obtain ⟨ys, e2, l, s, hr⟩ := p
    exact .inl ⟨Nat.le_refl _, hd D H hD s (by rw [e2, ints_of l hr])⟩
  | succ m =>
    have lt : i < n := by omega
    refine .inr ⟨lt, LcP H1 D (fun i v _ => v = .int (f i)) (i + 1), fun H' p' => ⟨m, Nat.lt_succ_self m, by omega, p'⟩, fun x H' y => ?_⟩
    obtain ⟨y1, y2⟩ := y
    subst y1
    subst y2
    refine ⟨wipe1' _, tYes_of ?_⟩
    rw [wipe1]
    exact hs i _ _ lt p.choose_spec.2.2.1 fun H4 s4 => lcP_step st (Nat.le_trans hn (by decide)) lt hD p s4 rfl
theorem each_at {xs : List V} {m : Nat} (hm : 0 < m) {k : Nat} (h1 : m * k < xs.length) (h2 : xs.length ≤ m * (k + 1)) : eachV (m : Int) xs = ((List.range (k + 1)).map fun i => m * i).filterMap fun i => xs[i]? := by
  unfold eachV sliceRange
  have c1 : ((m : Int) > 0) := by omega
  have c2 : (0 : Int) < (xs.length : Nat) := by omega
  simp only [c1, if_true, c2]
  have e : (((xs.length : Nat) : Int) - 0 + (m : Int) - 1) / (m : Int) = ((k + 1 : Nat) : Int) := by
    have e1 : ((xs.length : Nat) : Int) - 0 + (m : Int) - 1 = ((xs.length + m - 1 : Nat) : Int) := by omega
    rw [e1]
    have e2 : (xs.length + m - 1) / m = k + 1 := by
      refine Nat.div_eq_of_lt_le ?_ ?_
      · rw [Nat.mul_comm, Nat.mul_add]
        omega
      · rw [Nat.mul_comm, Nat.mul_add]
        omega
    rw [← e2]
    rfl
  rw [e, Int.toNat_natCast]
  congr 1
  refine List.map_congr_left fun i _ => ?_
  rw [Int.zero_add]
  exact Int.toNat_natCast (m * i)
theorem fm_all {f : Nat → Option V} {g : Nat → V} : ∀ {l : List Nat}, (∀ i ∈ l, f i = some (g i)) → l.filterMap f = l.map g
  | [], _ => rfl
  | i :: l, h => by
    rw [List.filterMap_cons, h i List.mem_cons_self, List.map_cons]
    exact congrArg (g i :: ·) (fm_all fun j hj => h j (List.mem_cons_of_mem _ hj))
theorem each_ints {g : Nat → Int} {m k n : Nat} (hm : 0 < m) (h1 : m * k < n) (h2 : n ≤ m * (k + 1)) : eachV (m : Int) (((List.range n).map g).map V.int) = ((List.range (k + 1)).map fun i => g (m * i)).map V.int := by
  rw [each_at hm (k := k) (by simpa using h1) (by simpa using h2), fm_all (g := fun i => V.int (g i)), List.map_map, List.map_map]
  · rfl
  · intro i hi
    obtain ⟨q, hq, rfl⟩ := List.mem_map.mp hi
    have hq' := List.mem_range.mp hq
    have lt : m * q < n := by
      have := Nat.mul_le_mul_left m (show q ≤ k by omega)
      omega
    rw [List.getElem?_map, List.getElem?_map, List.getElem?_range lt]
    rfl
theorem r_ixLast {a : Addr} {xs : List V} {v : V} {i : Int} (h : SqL K H a xs) (e : i = -1) (l : xs[xs.length - 1]? = some v) (q : Q v H) : rIxL K (.ref a) (.int i) H Q := by
  have lt := (List.getElem?_eq_some_iff.mp l).1
  refine ⟨a, xs, i, v, rfl, rfl, h, ?_, q⟩
  subst e
  unfold atI ixN
  rw [if_neg (by decide), if_pos (by omega), show ((-1 : Int) + (xs.length : Nat)).toNat = xs.length - 1 by omega]
  exact l
/-- what comes after five statements, proved once -/
def tEnd (N : L2.St → Hp → Prop) : TS := fun _ σ H => N σ H
theorem r_cut5 {A1 A2 A3 A4 A5 B : TS} {D : Ends} (J : L2.St → Hp → Prop) (h1 : ∀ N : L2.St → Hp → Prop, (∀ σ H, J σ H → N σ H) → tSeq A1 (tSeq A2 (tSeq A3 (tSeq A4 (tSeq A5 (tEnd N))))) D σ H) (h2 : ∀ σ H, J σ H → B D σ H) : tSeq A1 (tSeq A2 (tSeq A3 (tSeq A4 (tSeq A5 B)))) D σ H := h1 (fun σ H => B D σ H) h2
theorem r_end {N : L2.St → Hp → Prop} {D : Ends} (q : N σ H) : tEnd N D σ H := q
theorem r_popF {l : Addr} {x : V} {xs : List V} (h : H l = some (.lst (x :: xs))) (q : Q x (upd H l (.lst xs))) : rPopAt (.ref l) [.int 0] H Q := ⟨l, x :: xs, 0, 0, x, rfl, rfl, h, by decide, by decide, by
  unfold seqIndex?
  simp, rfl, q⟩
end
end G57
end
section
set_option maxRecDepth 100000
set_option maxHeartbeats 4000000
/-! XEnt: lists of entries [day, count], which change; lists of triples. -/
namespace G57
open PySem PySem.Spec PyProof.Rows L2
def EntAt (H : Hp) (v : V) (z : Int × Int) : Prop := ∃ p, v = .ref p ∧ H p = some (.lst [.int z.1, .int z.2])
def Ents (H : Hp) (vs : List V) (l : List (Int × Int)) : Prop := vs.length = l.length ∧ vs.Nodup ∧ ∀ (i : Nat) v z, vs[i]? = some v → l[i]? = some z → EntAt H v z
section
variable {H H' : Hp} {vs : List V} {l : List (Int × Int)}
theorem Ents.mono (h : Ents H vs l) (s : Same H H') : Ents H' vs l := ⟨h.1, h.2.1, fun i v z e1 e2 => let ⟨p, e3, e4⟩ := h.2.2 i v z e1 e2; ⟨p, e3, s _ _ e4⟩⟩
theorem Ents.nil : Ents H [] [] := ⟨rfl, List.nodup_nil, fun i v z e _ => by simp at e⟩
theorem Ents.at (h : Ents H vs l) {i : Nat} {v : V} (e : vs[i]? = some v) : ∃ z, l[i]? = some z ∧ EntAt H v z := by
  have lt := (List.getElem?_eq_some_iff.mp e).1
  have lt2 : i < l.length := by have := h.1; omega
  exact ⟨l[i], List.getElem?_eq_getElem lt2, h.2.2 i v _ e (List.getElem?_eq_getElem lt2)⟩
theorem Ents.is (h : Ents H vs l) {v : V} (hv : v ∈ vs) : ∃ p x y, v = .ref p ∧ H p = some (.lst [.int x, .int y]) := by
  obtain ⟨i, hi⟩ := List.getElem?_of_mem hv
  obtain ⟨z, _, p, e1, e2⟩ := h.at hi
  exact ⟨p, _, _, e1, e2⟩
/-- a new entry at the end -/
theorem Ents.snoc (h : Ents H vs l) {p : Addr} {d c : Int} (n : H p = none) (s : Same H H') (e : H' p = some (.lst [.int d, .int c])) : Ents H' (vs ++ [.ref p]) (l ++ [(d, c)]) := by
  have fresh : V.ref p ∉ vs := fun m => by
    obtain ⟨q, x, y, e1, e2⟩ := h.is m
    cases e1
    rw [n] at e2
    cases e2
  refine ⟨by simp [h.1], ?_, fun i u y e1 e2 => ?_⟩
  · rw [List.nodup_append]
    refine ⟨h.2.1, by simp, fun a ha b hb => ?_⟩
    rw [List.mem_singleton.mp hb]
    intro z
    rw [z] at ha
    exact fresh ha
  · rcases Nat.lt_trichotomy i vs.length with lt | eq | gt
    · rw [List.getElem?_append_left lt] at e1
      rw [List.getElem?_append_left (by have := h.1; omega)] at e2
      obtain ⟨q, e3, e4⟩ := h.2.2 i u y e1 e2
      exact ⟨q, e3, s _ _ e4⟩
    · subst eq
      rw [List.getElem?_append_right (Nat.le_refl _)] at e1
      rw [List.getElem?_append_right (by have := h.1; omega)] at e2
      simp at e1
      simp [h.1] at e2
      subst e1 e2
      exact ⟨p, rfl, e⟩
    · rw [List.getElem?_eq_none (by simp; omega)] at e1
      cases e1
/-- an entry's count changes -/
theorem Ents.set (h : Ents H vs l) {i : Nat} {p : Addr} {d c c' : Int} (e : vs[i]? = some (.ref p)) (el : l[i]? = some (d, c)) : Ents (upd H p (.lst [.int d, .int c'])) vs (l.set i (d, c')) := by
  refine ⟨by rw [List.length_set]; exact h.1, h.2.1, fun j u y e1 e2 => ?_⟩
  by_cases ej : j = i
  · subst ej
    rw [e] at e1
    cases e1
    rw [List.getElem?_set_self (List.getElem?_eq_some_iff.mp el).1] at e2
    cases e2
    exact ⟨p, rfl, upd_same⟩
  · rw [List.getElem?_set_ne (fun z => ej z.symm)] at e2
    obtain ⟨q, e3, e4⟩ := h.2.2 j u y e1 e2
    refine ⟨q, e3, ?_⟩
    rw [upd_ne]
    · exact e4
    · intro z
      subst z
      subst e3
      have i1 := (List.getElem?_eq_some_iff.mp e).1
      have j1 := (List.getElem?_eq_some_iff.mp e1).1
      exact ej ((List.getElem?_inj j1 h.2.1).mp (e1.trans e.symm))
/-- another list changes -/
theorem Ents.mut (h : Ents H vs l) {S : Addr} {o : HO} (n : V.ref S ∉ vs) : Ents (upd H S o) vs l := ⟨h.1, h.2.1, fun i v z e1 e2 => by
  obtain ⟨p, e3, e4⟩ := h.2.2 i v z e1 e2
  refine ⟨p, e3, ?_⟩
  rw [upd_ne]
  · exact e4
  · intro q
    subst q
    rw [e3] at e1
    exact n (List.mem_of_getElem? e1)⟩
theorem Ents.rev (h : Ents H vs l) : Ents H vs.reverse l.reverse := by
  refine ⟨by simp [h.1], List.pairwise_reverse.mpr (h.2.1.imp fun z => Ne.symm z), fun i v z e1 e2 => ?_⟩
  have lt : i < vs.length := by
    have := (List.getElem?_eq_some_iff.mp e1).1
    simpa using this
  rw [List.getElem?_reverse lt] at e1
  rw [List.getElem?_reverse (by have := h.1; omega), ← h.1] at e2
  exact h.2.2 _ v z e1 e2
/-- what was no list in H is none of the entries -/
theorem Ents.out (h : Ents H vs l) {S : Addr} (n : H S = none) : V.ref S ∉ vs := fun m => by
  obtain ⟨q, x, y, e1, e2⟩ := h.is m
  cases e1
  rw [n] at e2
  cases e2
end
/-! ### triples -/
def TripAt (H : Hp) (v : V) (z : Int × Int × Int) : Prop := ∃ p, v = .ref p ∧ H p = some (.tup [.int z.1, .int z.2.1, .int z.2.2])
def Trips (H : Hp) (vs : List V) (l : List (Int × Int × Int)) : Prop := vs.length = l.length ∧ ∀ (i : Nat) v z, vs[i]? = some v → l[i]? = some z → TripAt H v z
section
variable {H H' : Hp} {vs : List V} {l : List (Int × Int × Int)}
theorem Trips.mono (h : Trips H vs l) (s : Same H H') : Trips H' vs l := ⟨h.1, fun i v z e1 e2 => let ⟨p, e3, e4⟩ := h.2 i v z e1 e2; ⟨p, e3, s _ _ e4⟩⟩
theorem Trips.nil : Trips H [] [] := ⟨rfl, fun i v z e _ => by simp at e⟩
theorem Trips.at (h : Trips H vs l) {i : Nat} {v : V} (e : vs[i]? = some v) : ∃ z, l[i]? = some z ∧ TripAt H v z := by
  have lt := (List.getElem?_eq_some_iff.mp e).1
  have lt2 : i < l.length := by have := h.1; omega
  exact ⟨l[i], List.getElem?_eq_getElem lt2, h.2 i v _ e (List.getElem?_eq_getElem lt2)⟩
theorem Trips.mut (h : Trips H vs l) {S : Addr} {zs zs' : List V} (e : H S = some (.lst zs)) : Trips (upd H S (.lst zs')) vs l := ⟨h.1, fun i v z e1 e2 => let ⟨p, e3, e4⟩ := h.2 i v z e1 e2; ⟨p, e3, Stab.tup.2 _ _ _ _ e4 e⟩⟩
theorem Trips.snoc {v : V} {z : Int × Int × Int} (h : Trips H vs l) (k : TripAt H v z) : Trips H (vs ++ [v]) (l ++ [z]) := by
  refine ⟨by simp [h.1], fun i u y e1 e2 => ?_⟩
  rcases Nat.lt_trichotomy i vs.length with lt | eq | gt
  · rw [List.getElem?_append_left lt] at e1
    rw [List.getElem?_append_left (by have := h.1; omega)] at e2
    exact h.2 i u y e1 e2
  · subst eq
    rw [List.getElem?_append_right (Nat.le_refl _)] at e1
    rw [List.getElem?_append_right (by have := h.1; omega)] at e2
    simp at e1
    simp [h.1] at e2
    subst e1 e2
    exact k
  · rw [List.getElem?_eq_none (by simp; omega)] at e1
    cases e1
end
/-! ### comprehensions over entries -/
section
variable {K : PySem.W.Frag} {σ : L2.St} {H1 : Hp} {Q : VK} {te : TE} {tt : TT}
/-- some of the entries, the very objects -/
theorem lcEntF {a : Addr} {vs : List V} {l : List (Int × Int)} {j : Nat} (p : Int × Int → Bool) (hl : H1 a = some (.lst vs)) (hv : Ents H1 vs l) (hn : l.length ≤ 100000)
    (ht : ∀ (q : Addr) z H' (Z : Bool → Hp → Prop), Same H1 H' → H' q = some (.lst [.int z.1, .int z.2]) → (∀ H4, Same H' H4 → Z (p z) H4) → SetR j (.ref q) (fun s => tt s H' Z) σ)
    (hs : ∀ (q : Addr) H' (Z : VK), Same H1 H' → (∀ H4, Same H' H4 → Z (.ref q) H4) → SetR j (.ref q) (fun s => te s H' Z) σ)
    (hd : ∀ D H' ws, H1 D = none → Same H1 H' → H' D = some (.lst ws) → Ents H' ws (l.filter p) → (∀ v ∈ ws, v ∈ vs) → Q (.ref D) H') : LcR (Itl K a) (gName j) tt te [j] σ Q H1 := fun D hD => by
  have ln := hv.1
  refine lc_list (xs := vs) (fun i H' => Same H1 H' ∧ ∃ ws, H' D = some (.lst ws) ∧ ws.length = ((l.take i).filter p).length ∧ List.Sublist ws (vs.take i) ∧ ∀ (k : Nat) v z, ws[k]? = some v → ((l.take i).filter p)[k]? = some z → EntAt H1 v z) ⟨same_new hD, [], upd_same, rfl, List.nil_sublist _, fun k v z e _ => by simp at e⟩ (fun i H' _ w => sqL_same hl w.1) ?_ ?_
  · rintro i v H' hvi ⟨s1, ws, e1, l1, sb, h1⟩
    obtain ⟨z, hz, q, rfl, hq⟩ := hv.at hvi
    have lt := (List.getElem?_eq_some_iff.mp hvi).1
    refine ⟨wipe1' _, ?_⟩
    rw [wipe1]
    have tl : l.take (i + 1) = l.take i ++ [z] := by
      rw [List.take_add_one, hz]
      rfl
    have tv : vs.take (i + 1) = vs.take i ++ [.ref q] := by
      rw [List.take_add_one, hvi]
      rfl
    have wl : ws.length ≤ i := by
      have := sb.length_le
      rw [List.length_take] at this
      omega
    refine ht q z H' _ s1 (s1 _ _ hq) fun H4 s4 => ?_
    have s14 := sameT s1 s4
    have e4 := s4 _ _ e1
    cases hp : p z with
    | false =>
      refine iteF ⟨s14, ws, e4, ?_, ?_, fun k v y ev ey => ?_⟩
      · rw [tl, List.filter_append]
        simp [hp, l1]
      · rw [tv]
        exact sb.trans (List.sublist_append_left _ _)
      · rw [tl, List.filter_append] at ey
        simp [hp] at ey
        exact h1 k v y ev ey
    | true =>
      refine iteT (hs q H4 _ s14 fun H5 s5 => ⟨_, s5 _ _ e4, Nat.lt_of_lt_of_le (show _ < 100001 by omega) (by decide), same_mut (sameT s14 s5) hD, ws ++ [.ref q], upd_same, ?_, ?_, fun k v y ev ey => ?_⟩)
      · rw [tl, List.filter_append]
        simp [hp, l1]
      · rw [tv]
        exact sb.append (List.Sublist.refl _)
      · rw [tl, List.filter_append] at ey
        have f1 : List.filter p [z] = [z] := by simp [hp]
        rw [f1] at ey
        rcases Nat.lt_trichotomy k ws.length with lt | eq | gt
        · rw [List.getElem?_append_left lt] at ev
          rw [List.getElem?_append_left (by omega)] at ey
          exact h1 k v y ev ey
        · subst eq
          rw [List.getElem?_append_right (Nat.le_refl _)] at ev
          rw [List.getElem?_append_right (by omega)] at ey
          simp at ev
          simp [l1] at ey
          subst ev ey
          exact ⟨q, rfl, hq⟩
        · rw [List.getElem?_eq_none (by simp; omega)] at ev
          cases ev
  · rintro H' ⟨s1, ws, e1, l1, sb, h1⟩
    rw [List.take_of_length_le (by omega)] at l1 h1
    rw [List.take_of_length_le (Nat.le_refl _)] at sb
    exact hd D H' ws hD s1 e1 ⟨l1, hv.2.1.sublist sb, fun k v z ev ez => let ⟨q, a, b⟩ := h1 k v z ev ez; ⟨q, a, s1 _ _ b⟩⟩ fun v hv => sb.subset hv
/-- ints of some of the entries -/
theorem lcEntI {a : Addr} {vs : List V} {l : List (Int × Int)} {j : Nat} (p : Int × Int → Bool) (f : Int × Int → Int) (hl : H1 a = some (.lst vs)) (hv : Ents H1 vs l) (hn : l.length ≤ 100000)
    (ht : ∀ (q : Addr) z H' (Z : Bool → Hp → Prop), Same H1 H' → H' q = some (.lst [.int z.1, .int z.2]) → (∀ H4, Same H' H4 → Z (p z) H4) → SetR j (.ref q) (fun s => tt s H' Z) σ)
    (hs : ∀ (q : Addr) z H' (Z : VK), Same H1 H' → H' q = some (.lst [.int z.1, .int z.2]) → (∀ H4, Same H' H4 → Z (.int (f z)) H4) → SetR j (.ref q) (fun s => te s H' Z) σ)
    (hd : ∀ D H', H1 D = none → Same H1 H' → H' D = some (.lst (((l.filter p).map f).map V.int)) → Q (.ref D) H') : LcR (Itl K a) (gName j) tt te [j] σ Q H1 := fun D hD => by
  have ln := hv.1
  refine lc_list (xs := vs) (fun i H' => Same H1 H' ∧ H' D = some (.lst ((((l.take i).filter p).map f).map V.int))) ⟨same_new hD, by rw [upd_same]; rfl⟩ (fun i H' _ w => sqL_same hl w.1) ?_ ?_
  · rintro i v H' hvi ⟨s1, e1⟩
    obtain ⟨z, hz, q, rfl, hq⟩ := hv.at hvi
    have lt := (List.getElem?_eq_some_iff.mp hvi).1
    refine ⟨wipe1' _, ?_⟩
    rw [wipe1]
    have tl : l.take (i + 1) = l.take i ++ [z] := by
      rw [List.take_add_one, hz]
      rfl
    have len : ((((l.take i).filter p).map f).map V.int).length ≤ i := by
      rw [List.length_map, List.length_map]
      exact Nat.le_trans (List.length_filter_le _ _) (by rw [List.length_take]; omega)
    refine ht q z H' _ s1 (s1 _ _ hq) fun H4 s4 => ?_
    have s14 := sameT s1 s4
    have e4 := s4 _ _ e1
    cases hp : p z with
    | false =>
      refine iteF ⟨s14, ?_⟩
      rw [e4, tl, List.filter_append]
      simp [hp]
    | true =>
      refine iteT (hs q z H4 _ s14 (s14 _ _ hq) fun H5 s5 => ⟨_, s5 _ _ e4, Nat.lt_of_lt_of_le (show _ < 100001 by omega) (by decide), same_mut (sameT s14 s5) hD, ?_⟩)
      rw [upd_same, tl, List.filter_append]
      simp [hp]
  · rintro H' ⟨s1, e1⟩
    rw [List.take_of_length_le (by omega)] at e1
    exact hd D H' hD s1 e1
end
end G57
end
section
set_option maxRecDepth 100000
set_option maxHeartbeats 4000000
/-! XTrip: a comprehension over triples, with three names. -/
namespace G57
open PySem PySem.Spec PyProof.Rows L2
section
variable {K : PySem.W.Frag} {σ : L2.St} {H1 : Hp} {Q : VK} {te : TE}
theorem wipe3 {i j k : Nat} (nij : i ≠ j) (nik : i ≠ k) (njk : j ≠ k) (a b c : Option V) : (((wipe σ [i, j, k]).set i a).set j b).set k c = ((σ.set i a).set j b).set k c := by
  show ((((((σ.set k none).set j none).set i none).set i a).set j b).set k c) = _
  rw [List.set_set, List.set_comm _ _ nij.symm, List.set_set, List.set_comm _ _ nik.symm, List.set_comm _ _ njk.symm, List.set_set]
theorem wipe3' {i j k : Nat} (nij : i ≠ j) (nik : i ≠ k) (njk : j ≠ k) (a b c : Option V) : wipe (((σ.set i a).set j b).set k c) [i, j, k] = wipe σ [i, j, k] := by
  show ((((((σ.set i a).set j b).set k c).set k none).set j none).set i none) = ((σ.set k none).set j none).set i none
  rw [List.set_set, List.set_comm _ _ njk, List.set_set, List.set_comm _ _ nik, List.set_comm _ _ nij, List.set_set, List.set_comm _ _ nij.symm, List.set_comm _ _ nik.symm]
theorem lcT_list {a : Addr} {us : List V} {l : List (Int × Int × Int)} {i j m : Nat} (f : Int × Int × Int → Int) (nij : i ≠ j) (nim : i ≠ m) (njm : j ≠ m) (hl : H1 a = some (.lst us)) (hp : Trips H1 us l) (hn : l.length ≤ 100000)
    (hs : ∀ z H' (Z : VK), z ∈ l → Same H1 H' → (∀ H4, Same H' H4 → Z (.int (f z)) H4) → SetR i (.int z.1) (SetR j (.int z.2.1) (SetR m (.int z.2.2) fun s => te s H' Z)) σ)
    (hd : ∀ D H', H1 D = none → Same H1 H' → H' D = some (.lst ((l.map f).map V.int)) → Q (.ref D) H') :
    LcR (Itl K a) (gTup K 3 (gCons (gName i) (gCons (gName j) (gCons (gName m) gNil)))) tYes te [i, j, m] σ Q H1 := fun D hD => by
  have ul : us.length = l.length := hp.1
  have hR : ∀ (k : Nat) v, Stab ((fun (k : Nat) v (_ : Hp) => ∃ z, l[k]? = some z ∧ v = V.int (f z)) k v) := fun _ _ => Stab.triv
  refine lc_list (xs := us) (LcP H1 D fun k v _ => ∃ z, l[k]? = some z ∧ v = .int (f z)) (lcP_0 hD) (fun k H' hk p => sqL_same hl p.choose_spec.2.2.1) (fun k x H' hx p => ?_) fun H' p => by
    obtain ⟨ys, e, le, s, hr⟩ := p
    refine hd D H' hD s ?_
    rw [e]
    congr 2
    refine List.ext_getElem? fun k => ?_
    by_cases lt : k < ys.length
    · obtain ⟨z, hz, r⟩ := hr k _ (List.getElem?_eq_getElem lt)
      rw [List.getElem?_eq_getElem lt, r, List.getElem?_map, List.getElem?_map, hz]
      rfl
    · rw [List.getElem?_eq_none (by omega), List.getElem?_eq_none (by simp; omega)]
  have s := p.choose_spec.2.2.1
  obtain ⟨z, hz, q, rfl, hq⟩ := (hp.mono s).at hx
  have lt := (List.getElem?_eq_some_iff.mp hz).1
  refine r_gtup (sqT_at hq) rfl ?_
  refine r_gcons ?_
  refine r_gname ?_
  refine r_setU ?_
  refine r_gcons ?_
  refine r_gname ?_
  refine r_setU ?_
  refine r_gcons ?_
  refine r_gname ?_
  refine r_setU ?_
  refine r_gnil ?_
  rw [wipe3 nij nim njm]
  refine ⟨wipe3' nij nim njm _ _ _, tYes_of (hs z H' _ (List.mem_of_getElem? hz) s fun H4 s4 => lcP_step hR (show l.length ≤ sizeLine from Nat.le_trans hn (by decide)) lt hD p s4 ⟨z, hz, rfl⟩)⟩
end
end G57
end
section
set_option maxRecDepth 100000
set_option maxHeartbeats 4000000
/-! XTripF: some of a list's triples; lists of truth values. -/
namespace G57
open PySem PySem.Spec PyProof.Rows L2
section
variable {K : PySem.W.Frag} {σ : L2.St} {H1 : Hp} {Q : VK} {te : TE} {tt : TT}
/-- some of the triples, the very objects -/
theorem lcTripF {a : Addr} {vs : List V} {l : List (Int × Int × Int)} {j : Nat} (p : Int × Int × Int → Bool) (hl : H1 a = some (.lst vs)) (hv : Trips H1 vs l) (hn : l.length ≤ 100000)
    (ht : ∀ (q : Addr) z H' (Z : Bool → Hp → Prop), Same H1 H' → H' q = some (.tup [.int z.1, .int z.2.1, .int z.2.2]) → (∀ H4, Same H' H4 → Z (p z) H4) → SetR j (.ref q) (fun s => tt s H' Z) σ)
    (hs : ∀ (q : Addr) H' (Z : VK), Same H1 H' → (∀ H4, Same H' H4 → Z (.ref q) H4) → SetR j (.ref q) (fun s => te s H' Z) σ)
    (hd : ∀ D H' ws, H1 D = none → Same H1 H' → H' D = some (.lst ws) → Trips H' ws (l.filter p) → Q (.ref D) H') : LcR (Itl K a) (gName j) tt te [j] σ Q H1 := fun D hD => by
  have ln := hv.1
  refine lc_list (xs := vs) (fun i H' => Same H1 H' ∧ ∃ ws, H' D = some (.lst ws) ∧ Trips H1 ws ((l.take i).filter p)) ⟨same_new hD, [], upd_same, Trips.nil⟩ (fun i H' _ w => sqL_same hl w.1) ?_ ?_
  · rintro i v H' hvi ⟨s1, ws, e1, h1⟩
    obtain ⟨z, hz, q, rfl, hq⟩ := hv.at hvi
    have lt := (List.getElem?_eq_some_iff.mp hvi).1
    refine ⟨wipe1' _, ?_⟩
    rw [wipe1]
    have tl : l.take (i + 1) = l.take i ++ [z] := by
      rw [List.take_add_one, hz]
      rfl
    have wl : ws.length ≤ i := by
      rw [h1.1]
      exact Nat.le_trans (List.length_filter_le _ _) (by rw [List.length_take]; omega)
    refine ht q z H' _ s1 (s1 _ _ hq) fun H4 s4 => ?_
    have s14 := sameT s1 s4
    have e4 := s4 _ _ e1
    cases hp : p z with
    | false =>
      refine iteF ⟨s14, ws, e4, ?_⟩
      rw [tl, List.filter_append]
      simp [hp]
      exact h1
    | true =>
      refine iteT (hs q H4 _ s14 fun H5 s5 => ⟨_, s5 _ _ e4, Nat.lt_of_lt_of_le (show _ < 100001 by omega) (by decide), same_mut (sameT s14 s5) hD, ws ++ [.ref q], upd_same, ?_⟩)
      rw [tl, List.filter_append]
      have f1 : List.filter p [z] = [z] := by simp [hp]
      rw [f1]
      exact h1.snoc ⟨q, rfl, hq⟩
  · rintro H' ⟨s1, ws, e1, h1⟩
    rw [List.take_of_length_le (by omega)] at h1
    exact hd D H' ws hD s1 e1 (h1.mono s1)
/-- ints of some of the triples, with three names -/
theorem lcTF_list {a : Addr} {us : List V} {l : List (Int × Int × Int)} {i j m : Nat} (p : Int × Int × Int → Bool) (f : Int × Int × Int → Int) (nij : i ≠ j) (nim : i ≠ m) (njm : j ≠ m) (hl : H1 a = some (.lst us)) (hp : Trips H1 us l) (hn : l.length ≤ 100000)
    (ht : ∀ z H' (Z : Bool → Hp → Prop), z ∈ l → Same H1 H' → (∀ H4, Same H' H4 → Z (p z) H4) → SetR i (.int z.1) (SetR j (.int z.2.1) (SetR m (.int z.2.2) fun s => tt s H' Z)) σ)
    (hs : ∀ z H' (Z : VK), z ∈ l → Same H1 H' → (∀ H4, Same H' H4 → Z (.int (f z)) H4) → SetR i (.int z.1) (SetR j (.int z.2.1) (SetR m (.int z.2.2) fun s => te s H' Z)) σ)
    (hd : ∀ D H', H1 D = none → Same H1 H' → H' D = some (.lst (((l.filter p).map f).map V.int)) → Q (.ref D) H') :
    LcR (Itl K a) (gTup K 3 (gCons (gName i) (gCons (gName j) (gCons (gName m) gNil)))) tt te [i, j, m] σ Q H1 := fun D hD => by
  have ul : us.length = l.length := hp.1
  refine lc_list (xs := us) (fun k H' => Same H1 H' ∧ H' D = some (.lst ((((l.take k).filter p).map f).map V.int))) ⟨same_new hD, by rw [upd_same]; rfl⟩ (fun k H' hk w => sqL_same hl w.1) ?_ ?_
  · rintro k x H' hx ⟨s, e⟩
    obtain ⟨z, hz, q, rfl, hq⟩ := (hp.mono s).at hx
    have lt := (List.getElem?_eq_some_iff.mp hz).1
    have tl : l.take (k + 1) = l.take k ++ [z] := by
      rw [List.take_add_one, hz]
      rfl
    have len : ((((l.take k).filter p).map f).map V.int).length ≤ k := by
      rw [List.length_map, List.length_map]
      exact Nat.le_trans (List.length_filter_le _ _) (by rw [List.length_take]; omega)
    refine r_gtup (sqT_at hq) rfl ?_
    refine r_gcons ?_
    refine r_gname ?_
    refine r_setU ?_
    refine r_gcons ?_
    refine r_gname ?_
    refine r_setU ?_
    refine r_gcons ?_
    refine r_gname ?_
    refine r_setU ?_
    refine r_gnil ?_
    rw [wipe3 nij nim njm]
    refine ⟨wipe3' nij nim njm _ _ _, ?_⟩
    refine ht z H' _ (List.mem_of_getElem? hz) s fun H4 s4 => ?_
    have s14 := sameT s s4
    have e4 := s4 _ _ e
    cases hpz : p z with
    | false =>
      refine iteF ⟨s14, ?_⟩
      rw [e4, tl, List.filter_append]
      simp [hpz]
    | true =>
      refine iteT (hs z H4 _ (List.mem_of_getElem? hz) s14 fun H5 s5 => ⟨_, s5 _ _ e4, Nat.lt_of_lt_of_le (show _ < 100001 by omega) (by decide), same_mut (sameT s14 s5) hD, ?_⟩)
      rw [upd_same, tl, List.filter_append]
      simp [hpz]
  · rintro H' ⟨s1, e1⟩
    rw [List.take_of_length_le (by omega)] at e1
    exact hd D H' hD s1 e1
/-- truth values over a list of ints -/
theorem lcB_list {a : Addr} {xs : List Int} {j : Nat} (f : Int → Bool) (hl : H1 a = some (.lst (xs.map V.int))) (hn : xs.length ≤ 100000)
    (hs : ∀ x H' (Z : VK), x ∈ xs → Same H1 H' → (∀ H4, Same H' H4 → Z (.bl (f x)) H4) → SetR j (.int x) (fun s => te s H' Z) σ)
    (hd : ∀ D H', H1 D = none → Same H1 H' → H' D = some (.lst ((xs.map f).map V.bl)) → Q (.ref D) H') : LcR (Itl K a) (gName j) tYes te [j] σ Q H1 :=
  lcN_list (fun i v _ => ∃ x, xs[i]? = some x ∧ v = .bl (f x)) (fun _ _ => Stab.triv) hl (Nat.le_trans (by rw [List.length_map]; exact hn) (by decide : 100000 ≤ sizeLine)) wipe1' (fun i v H' Z hx s z => by
    rw [wipe1]
    obtain ⟨y, hy, rfl⟩ : ∃ y, xs[i]? = some y ∧ V.int y = v := by simpa using hx
    exact hs y H' Z (List.mem_of_getElem? hy) s fun H4 s4 => z _ _ s4 ⟨y, hy, rfl⟩) fun D H' ys hD s e l h => hd D H' hD s (by
      rw [e]
      congr 2
      refine List.ext_getElem? fun i => ?_
      by_cases lt : i < ys.length
      · obtain ⟨x, hx, e⟩ := h i _ (List.getElem?_eq_getElem lt)
        rw [List.getElem?_eq_getElem lt, e, List.getElem?_map, List.getElem?_map, hx]
        rfl
      · rw [List.getElem?_eq_none (by omega), List.getElem?_eq_none (by rw [List.length_map] at l; simp; omega)])
/-- truth values over a range -/
theorem lcB_range {lo : Int} {n j : Nat} (f : Nat → Bool) (hn : n ≤ 100000)
    (hs : ∀ i H' (Z : VK), i < n → Same H1 H' → (∀ H4, Same H' H4 → Z (.bl (f i)) H4) → SetR j (.int (lo + i)) (fun s => te s H' Z) σ)
    (hd : ∀ D H', H1 D = none → Same H1 H' → H' D = some (.lst (((List.range n).map f).map V.bl)) → Q (.ref D) H') : LcR (Itr lo n) (gName j) tYes te [j] σ Q H1 :=
  lcN_range (fun i v _ => v = .bl (f i)) (fun _ _ => Stab.triv) (Nat.le_trans hn (by decide)) wipe1' (fun i H' Z hi s z => by
    rw [wipe1]
    exact hs i H' Z hi s fun H4 s4 => z _ _ s4 rfl) fun D H' ys hD s e l h => hd D H' hD s (by
      rw [e]
      congr 2
      refine List.ext_getElem? fun i => ?_
      by_cases lt : i < ys.length
      · have e := h i _ (List.getElem?_eq_getElem lt)
        rw [List.getElem?_eq_getElem lt, e, List.getElem?_map, List.getElem?_map, List.getElem?_range (by omega)]
        rfl
      · rw [List.getElem?_eq_none (by omega), List.getElem?_eq_none (by simp; omega)])
end
theorem op_inK {X : Cx} {K : PySem.W.Frag} (h : X.K = K) : OpR X (compareOp .In) (rIn K false) := h ▸ op_in_seq
theorem op_ninK {X : Cx} {K : PySem.W.Frag} (h : X.K = K) : OpR X (compareOp .NotIn) (rIn K true) := h ▸ op_notIn_seq
theorem inV_ints (x : Int) (xs : List Int) : inV (.int x) (xs.map V.int) = decide (x ∈ xs) := by
  unfold inV
  rw [List.any_map]
  by_cases h : x ∈ xs
  · rw [decide_eq_true h]
    exact List.any_eq_true.mpr ⟨x, h, by show (x == x) = true; simp⟩
  · rw [decide_eq_false h]
    refine List.any_eq_false.mpr fun y hy z => h ?_
    have e : (y == x) = true := z
    rw [← eq_of_beq e]
    exact hy
theorem flat_ints (xs : List Int) : (xs.map V.int).all flatV = true := List.all_eq_true.mpr fun v hv => by
  obtain ⟨x, _, rfl⟩ := List.mem_map.mp hv
  rfl
theorem r_inL {K : PySem.W.Frag} {H : Hp} {Q : VK} {a : Addr} {x : Int} {xs : List Int} (h : SqL K H a (xs.map V.int)) (q : Q (.bl (decide (x ∈ xs))) H) : rIn K false (.int x) (.ref a) H Q :=
  ⟨a, _, rfl, .inl h, rfl, flat_ints xs, by rw [inV_ints]; exact q⟩
theorem r_ninL {K : PySem.W.Frag} {H : Hp} {Q : VK} {a : Addr} {x : Int} {xs : List Int} (h : SqL K H a (xs.map V.int)) (q : Q (.bl (!decide (x ∈ xs))) H) : rIn K true (.int x) (.ref a) H Q :=
  ⟨a, _, rfl, .inl h, rfl, flat_ints xs, by rw [inV_ints]; exact q⟩
theorem r_anyB {K : PySem.W.Frag} {H : Hp} {Q : VK} {a : Addr} {bs : List Bool} (h : SqL K H a (bs.map V.bl)) (q : Q (.bl (bs.any id)) H) : rAny K [V.ref a] H Q := ⟨a, bs, rfl, h, q⟩
/-! ### enumerate of a list -/
theorem for_enumL {K : PySem.W.Frag} {a : Addr} {xs : List V} {g : TG} {tb : TS} {D : Ends} {σ : L2.St} {H : Hp} (Pv : Nat → L2.St → Hp → Prop) (h0 : Pv 0 σ H) (hq : ∀ i σ H, Pv i σ H → SqL K H a xs)
    (hs : ∀ (i : Nat) (x : V) (T : Addr) (σ : L2.St) (H : Hp), xs[i]? = some x → Pv i σ H → H T = none → TurnR g tb D (Pv (i + 1)) (.ref T) σ (upd H T (.tup [.int (i : Nat), x])))
    (hd : ∀ σ H, Pv xs.length σ H → D.nx σ H) : ForR (Ite K a) g tb D σ H := by
  refine ⟨fun i m σ H => m = xs.length - i ∧ i ≤ xs.length ∧ Pv i σ H, ⟨xs.length, by simp, Nat.zero_le _, h0⟩, ?_⟩
  rintro i m σ H ⟨em, hi, p⟩
  have hl := hq i σ H p
  by_cases e : i = xs.length
  · subst e
    exact .inl ⟨⟨xs, hl, Nat.le_refl _⟩, hd σ H p⟩
  · have lt : i < xs.length := by omega
    refine .inr ⟨⟨xs, xs[i], hl, List.getElem?_eq_getElem lt⟩, Pv (i + 1), fun σ' H' q => ⟨xs.length - (i + 1), by omega, rfl, lt, q⟩, ?_⟩
    rintro v H' ⟨T, x, rfl, hT, rfl, hx⟩
    exact hs i x T σ H (hx xs hl) p hT
theorem r_iEL {K : PySem.W.Frag} {tA : TA} {σ : L2.St} {H : Hp} {R : It → Hp → Prop} (q : tA σ H fun vs H1 => ∃ a xs, vs = [.ref a] ∧ SqL K H1 a xs ∧ R (Ite K a) H1) : iEnum K tA σ H R := q
theorem r_iELv {K : PySem.W.Frag} {H : Hp} {a : Addr} {xs : List V} {R : It → Hp → Prop} (h : SqL K H a xs) (q : R (Ite K a) H) : ∃ a' xs', [V.ref a] = [.ref a'] ∧ SqL K H a' xs' ∧ R (Ite K a') H := ⟨a, xs, rfl, h, q⟩
end G57
end
section
/-! MEff: the plain law of effects. -/
namespace G57
structure Eff where
  shift : Int
  low : Int
  high : Int
  need : Int
  room : Int
  misses : Int
  waste : Int
def Eff.fin (e : Eff) (s : Int) : Int := min (max (s + e.shift) e.low) e.high
def Eff.mis (e : Eff) (s : Int) : Int := e.misses + max 0 (e.need - s)
def Eff.thr (e : Eff) (s : Int) : Int := e.waste + max 0 (s - e.room)
def Eff.seq (f g : Eff) : Eff :=
  if f.low = f.high then ⟨f.shift + g.shift, g.fin f.low, g.fin f.high, f.need, f.room, f.misses + g.mis f.low, f.waste + g.thr f.low⟩
  else ⟨f.shift + g.shift, g.fin f.low, g.fin f.high, min (max g.need f.low) f.high - f.shift, min (max g.room f.low) f.high - f.shift, f.misses + g.misses + max 0 (g.need - f.high), f.waste + g.waste + max 0 (f.low - g.room)⟩
def dayE (b c k : Int) : Eff := ⟨b - c, 0, k, 0 - (b - c), k - (b - c), 0, 0⟩
structure Eff.Ok (e : Eff) : Prop where
  le : e.low ≤ e.high
  nd : e.low < e.high → e.need = e.low - e.shift ∧ e.room = e.high - e.shift
theorem dayE_ok {b c k : Int} (h : 0 ≤ k) : (dayE b c k).Ok := ⟨h, fun _ => ⟨rfl, rfl⟩⟩
theorem seq_fin {f g : Eff} (hf : f.Ok) (hg : g.Ok) (s : Int) : (f.seq g).fin s = g.fin (f.fin s) := by
  have h1 := hf.le
  have h2 := hg.le
  unfold Eff.seq
  split <;> (simp only [Eff.fin]; omega)
theorem seq_mis {f g : Eff} (hf : f.Ok) (s : Int) : (f.seq g).mis s = f.mis s + g.mis (f.fin s) := by
  have h1 := hf.le
  unfold Eff.seq
  split
  · rename_i h
    simp only [Eff.mis, Eff.fin]
    omega
  · rename_i h
    obtain ⟨h3, h4⟩ := hf.nd (by omega)
    simp only [Eff.mis, Eff.fin]
    omega
theorem seq_thr {f g : Eff} (hf : f.Ok) (s : Int) : (f.seq g).thr s = f.thr s + g.thr (f.fin s) := by
  have h1 := hf.le
  unfold Eff.seq
  split
  · rename_i h
    simp only [Eff.thr, Eff.fin]
    omega
  · rename_i h
    obtain ⟨h3, h4⟩ := hf.nd (by omega)
    simp only [Eff.thr, Eff.fin]
    omega
theorem seq_ok {f g : Eff} (hf : f.Ok) (hg : g.Ok) : (f.seq g).Ok := by
  have h1 := hf.le
  have h2 := hg.le
  unfold Eff.seq
  split
  · rename_i h
    refine ⟨?_, ?_⟩
    · simp only [Eff.fin]
      omega
    · simp only [Eff.fin]
      intro z
      omega
  · rename_i h
    refine ⟨?_, ?_⟩
    · simp only [Eff.fin]
      omega
    · simp only [Eff.fin]
      intro z
      obtain ⟨h3, h4⟩ := hg.nd (by omega)
      omega
/-! ### n times -/
def itf (e : Eff) : Nat → Int → Int
  | 0, s => s
  | n + 1, s => e.fin (itf e n s)
def itm (e : Eff) : Nat → Int → Int
  | 0, _ => 0
  | n + 1, s => itm e n s + e.mis (itf e n s)
def itt (e : Eff) : Nat → Int → Int
  | 0, _ => 0
  | n + 1, s => itt e n s + e.thr (itf e n s)
theorem itf_add (e : Eff) (a : Nat) (s : Int) : ∀ b, itf e (a + b) s = itf e b (itf e a s)
  | 0 => rfl
  | b + 1 => congrArg e.fin (itf_add e a s b)
theorem itm_add (e : Eff) (a : Nat) (s : Int) : ∀ b, itm e (a + b) s = itm e a s + itm e b (itf e a s)
  | 0 => (Int.add_zero _).symm
  | b + 1 => by
    show itm e (a + b) s + e.mis (itf e (a + b) s) = itm e a s + (itm e b (itf e a s) + e.mis (itf e b (itf e a s)))
    rw [itm_add e a s b, itf_add e a s b, Int.add_assoc]
theorem itt_add (e : Eff) (a : Nat) (s : Int) : ∀ b, itt e (a + b) s = itt e a s + itt e b (itf e a s)
  | 0 => (Int.add_zero _).symm
  | b + 1 => by
    show itt e (a + b) s + e.thr (itf e (a + b) s) = itt e a s + (itt e b (itf e a s) + e.thr (itf e b (itf e a s)))
    rw [itt_add e a s b, itf_add e a s b, Int.add_assoc]
/-- g does what n times e does -/
structure IsPow (e : Eff) (n : Nat) (g : Eff) : Prop where
  ok : g.Ok
  fin : ∀ s, g.fin s = itf e n s
  mis : ∀ s, g.mis s = itm e n s
  thr : ∀ s, g.thr s = itt e n s
theorem isPow_one {e : Eff} (h : e.Ok) : IsPow e 1 e := ⟨h, fun _ => rfl, fun s => (Int.zero_add _).symm, fun s => (Int.zero_add _).symm⟩
theorem IsPow.seq {e f g : Eff} {a b : Nat} (hf : IsPow e a f) (hg : IsPow e b g) : IsPow e (a + b) (f.seq g) :=
  ⟨seq_ok hf.ok hg.ok, fun s => by rw [seq_fin hf.ok hg.ok, itf_add, hg.fin, hf.fin], fun s => by rw [seq_mis hf.ok, itm_add, hf.mis, hg.mis, hf.fin], fun s => by rw [seq_thr hf.ok, itt_add, hf.thr, hg.thr, hf.fin]⟩
theorem itf_fix {e : Eff} {s : Int} (h : e.fin s = s) : ∀ n, itf e n s = s
  | 0 => rfl
  | n + 1 => by
    show e.fin (itf e n s) = s
    rw [itf_fix h n, h]
theorem fin_mono {e : Eff} (h : e.Ok) {s t : Int} (l : s ≤ t) : e.fin s ≤ e.fin t := by
  simp only [Eff.fin]
  omega
theorem fin_in {e : Eff} (h : e.Ok) (s : Int) : e.low ≤ e.fin s ∧ e.fin s ≤ e.high := by
  have := h.le
  simp only [Eff.fin]
  omega
theorem itf_in {e : Eff} (h : e.Ok) {n : Nat} (p : 0 < n) (s : Int) : e.low ≤ itf e n s ∧ itf e n s ≤ e.high := by
  cases n with
  | zero => omega
  | succ n => exact fin_in h _
/-- the stock settles -/
theorem settles {e : Eff} (h : e.Ok) (s : Int) : ∃ n, e.fin (itf e n s) = itf e n s := by
  by_cases up : itf e 1 s ≤ itf e 2 s
  · have mono : ∀ n, itf e (n + 1) s ≤ itf e (n + 2) s := fun n => by
      induction n with
      | zero => exact up
      | succ n ih => exact fin_mono h ih
    false_or_by_contra
    rename_i no
    have grow : ∀ n : Nat, e.low + n ≤ itf e (n + 1) s := fun n => by
      induction n with
      | zero => exact Int.le_trans (by simp) (itf_in h (by omega) s).1
      | succ n ih =>
        have ne : e.fin (itf e (n + 1) s) ≠ itf e (n + 1) s := fun z => no ⟨_, z⟩
        have le := mono n
        have eq : itf e (n + 2) s = e.fin (itf e (n + 1) s) := rfl
        rw [eq] at le ⊢
        omega
    have a := grow (e.high - e.low + 1).toNat
    have b := (itf_in h (show 0 < (e.high - e.low + 1).toNat + 1 from Nat.succ_pos _) s).2
    have c := h.le
    omega
  · have mono : ∀ n, itf e (n + 2) s ≤ itf e (n + 1) s := fun n => by
      induction n with
      | zero => exact Int.le_of_lt (Int.not_le.mp up)
      | succ n ih => exact fin_mono h ih
    false_or_by_contra
    rename_i no
    have grow : ∀ n : Nat, itf e (n + 1) s ≤ e.high - n := fun n => by
      induction n with
      | zero => exact Int.le_trans (itf_in h (by omega) s).2 (by simp)
      | succ n ih =>
        have ne : e.fin (itf e (n + 1) s) ≠ itf e (n + 1) s := fun z => no ⟨_, z⟩
        have le := mono n
        have eq : itf e (n + 2) s = e.fin (itf e (n + 1) s) := rfl
        rw [eq] at le ⊢
        omega
    have a := grow (e.high - e.low + 1).toNat
    have b := (itf_in h (show 0 < (e.high - e.low + 1).toNat + 1 from Nat.succ_pos _) s).1
    have c := h.le
    omega
/-- the least number of rounds behind which the stock stays -/
theorem least_of {p : Nat → Prop} : (∃ n, p n) → ∃ n, p n ∧ ∀ m, m < n → ¬ p m := fun ⟨n, hn⟩ => by
  induction n using Nat.strongRecOn with
  | ind n ih =>
    by_cases h : ∃ m, m < n ∧ p m
    · obtain ⟨m, lt, hm⟩ := h
      exact ih m lt hm
    · exact ⟨n, hn, fun m lt hm => h ⟨m, lt, hm⟩⟩
def Settle (e : Eff) (s : Int) (r : Nat) : Prop := e.fin (itf e r s) = itf e r s ∧ ∀ m, m < r → e.fin (itf e m s) ≠ itf e m s
theorem settle_ex {e : Eff} (h : e.Ok) (s : Int) : ∃ r, Settle e s r := least_of (settles h s)
theorem Settle.iff {e : Eff} {s : Int} {r : Nat} (h : Settle e s r) (n : Nat) : e.fin (itf e n s) = itf e n s ↔ r ≤ n := by
  refine ⟨fun z => ?_, fun le => ?_⟩
  · false_or_by_contra
    exact h.2 n (by omega) z
  · obtain ⟨d, rfl⟩ : ∃ d, n = r + d := ⟨n - r, by omega⟩
    have q := itf_fix h.1 d
    rw [itf_add, q]
    exact h.1
end G57
end
section
/-! MBak: the plain law of a bakery: the stocks day by day. -/
namespace G57
structure Bak where
  bakes : List Int
  dems : List Int
  life : Int
def Bak.n (B : Bak) : Nat := B.bakes.length
def Bak.bk (B : Bak) (d : Int) : Int := if 0 ≤ d then B.bakes.getD (d % B.n).toNat 0 else 0
def Bak.wish (B : Bak) (d : Int) : Int := B.dems.getD (d % B.n).toNat 0
def Bak.kept (B : Bak) (d : Int) : Int := ((List.range (B.life - 1).toNat).map fun a => B.bk (d - (a : Nat))).sum
def Bak.eff (B : Bak) (d : Int) : Eff := dayE (B.bk d) (B.wish d) (B.kept d)
def Bak.st (B : Bak) : Nat → Int
  | 0 => 0
  | k + 1 => (B.eff (k : Nat)).fin (B.st k)
structure Bak.Ok (B : Bak) : Prop where
  n0 : 0 < B.n
  n1 : B.n ≤ 24
  m : B.dems.length = B.n
  l0 : 1 ≤ B.life
  l1 : B.life ≤ 30
  b : ∀ x ∈ B.bakes, 0 ≤ x ∧ x ≤ 1000000000
  d : ∀ x ∈ B.dems, 0 ≤ x ∧ x ≤ 1000000000
theorem Bak.Ok.ix {B : Bak} (h : B.Ok) (d : Int) : (d % B.n).toNat < B.n ∧ ((d % B.n).toNat : Int) = d % B.n := by
  have h0 := h.n0
  have h1 := Int.emod_nonneg d (show (B.n : Int) ≠ 0 by omega)
  have h2 := Int.emod_lt_of_pos d (show (0 : Int) < B.n by omega)
  omega
theorem Bak.Ok.bk_in {B : Bak} (h : B.Ok) (d : Int) : 0 ≤ B.bk d ∧ B.bk d ≤ 1000000000 := by
  unfold Bak.bk
  split
  · have z : (d % B.n).toNat < B.bakes.length := (h.ix d).1
    rw [List.getD_eq_getElem?_getD, List.getElem?_eq_getElem z]
    exact h.b _ (List.getElem_mem z)
  · omega
theorem Bak.Ok.wish_in {B : Bak} (h : B.Ok) (d : Int) : 0 ≤ B.wish d ∧ B.wish d ≤ 1000000000 := by
  unfold Bak.wish
  have z : (d % B.n).toNat < B.dems.length := Nat.lt_of_lt_of_eq (h.ix d).1 h.m.symm
  rw [List.getD_eq_getElem?_getD, List.getElem?_eq_getElem z]
  exact h.d _ (List.getElem_mem z)
theorem sum_nonneg : ∀ {l : List Int}, (∀ x ∈ l, 0 ≤ x) → 0 ≤ l.sum
  | [], _ => by simp
  | a :: l, h => by
    rw [List.sum_cons]
    have := h a (by simp)
    have := sum_nonneg (l := l) fun x hx => h x (by simp [hx])
    omega
theorem Bak.Ok.kept0 {B : Bak} (h : B.Ok) (d : Int) : 0 ≤ B.kept d := by
  refine sum_nonneg fun x hx => ?_
  obtain ⟨a, _, rfl⟩ := List.mem_map.mp hx
  exact (h.bk_in _).1
theorem Bak.Ok.effOk {B : Bak} (h : B.Ok) (d : Int) : (B.eff d).Ok := dayE_ok (h.kept0 d)
theorem Bak.Ok.bk_at {B : Bak} (h : B.Ok) {d : Int} (h0 : 0 ≤ d) : B.bakes[(d % B.n).toNat]? = some (B.bk d) := by
  have z := (h.ix d).1
  unfold Bak.bk
  rw [if_pos h0, List.getD_eq_getElem?_getD, List.getElem?_eq_getElem z]
  rfl
theorem Bak.Ok.wish_at {B : Bak} (h : B.Ok) (d : Int) : B.dems[(d % B.n).toNat]? = some (B.wish d) := by
  have z : (d % B.n).toNat < B.dems.length := Nat.lt_of_lt_of_eq (h.ix d).1 h.m.symm
  unfold Bak.wish
  rw [List.getD_eq_getElem?_getD, List.getElem?_eq_getElem z]
  rfl
theorem st_in {B : Bak} (h : B.Ok) : ∀ k, 0 ≤ B.st k
  | 0 => Int.le_refl _
  | k + 1 => (fin_in (h.effOk k) _).1
/-! ### the last of the early days -/
def Bak.last (B : Bak) : Nat := B.n * (((B.life - 1).toNat + B.n - 1) / B.n)
theorem Bak.Ok.last_ge {B : Bak} (h : B.Ok) : (B.life - 1).toNat ≤ B.last := by
  have n0 := h.n0
  unfold Bak.last
  have e := Nat.div_add_mod ((B.life - 1).toNat + B.n - 1) B.n
  have l := Nat.mod_lt ((B.life - 1).toNat + B.n - 1) n0
  omega
theorem Bak.Ok.last_lt {B : Bak} (h : B.Ok) : B.last < (B.life - 1).toNat + B.n := by
  have n0 := h.n0
  unfold Bak.last
  have e := Nat.div_add_mod ((B.life - 1).toNat + B.n - 1) B.n
  omega
theorem Bak.Ok.last_mod {B : Bak} (h : B.Ok) : B.last % B.n = 0 := Nat.mul_mod_right _ _
theorem Bak.Ok.last_min {B : Bak} (h : B.Ok) {j : Nat} (l : (B.life - 1).toNat ≤ j) (m : j % B.n = 0) : B.last ≤ j := by
  have n0 := h.n0
  have lt := h.last_lt
  have e := Nat.div_add_mod j B.n
  rw [m] at e
  unfold Bak.last at lt ⊢
  generalize ((B.life - 1).toNat + B.n - 1) / B.n = q at lt ⊢
  have z : q < j / B.n + 1 := by
    refine Nat.lt_of_mul_lt_mul_left (a := B.n) ?_
    rw [Nat.mul_add]
    omega
  have z2 : B.n * q ≤ B.n * (j / B.n) := Nat.mul_le_mul_left _ (by omega)
  omega
/-! ### from one day on -/
def Bak.rf (B : Bak) (a : Nat) : Nat → Int → Int
  | 0, s => s
  | k + 1, s => (B.eff ((a + k : Nat) : Int)).fin (B.rf a k s)
def Bak.rm (B : Bak) (a : Nat) : Nat → Int → Int
  | 0, _ => 0
  | k + 1, s => B.rm a k s + (B.eff ((a + k : Nat) : Int)).mis (B.rf a k s)
def Bak.rt (B : Bak) (a : Nat) : Nat → Int → Int
  | 0, _ => 0
  | k + 1, s => B.rt a k s + (B.eff ((a + k : Nat) : Int)).thr (B.rf a k s)
theorem st_rf (B : Bak) (a : Nat) : ∀ k, B.st (a + k) = B.rf a k (B.st a)
  | 0 => rfl
  | k + 1 => congrArg (B.eff ((a + k : Nat) : Int)).fin (st_rf B a k)
/-- what misses, what is thrown on a day -/
def Bak.ms (B : Bak) (d : Nat) : Int := (B.eff (d : Int)).mis (B.st d)
def Bak.th (B : Bak) (d : Nat) : Int := (B.eff (d : Int)).thr (B.st d)
def Bak.sm (B : Bak) (a : Nat) : Nat → Int
  | 0 => 0
  | k + 1 => B.sm a k + B.ms (a + k)
def Bak.sh (B : Bak) (a : Nat) : Nat → Int
  | 0 => 0
  | k + 1 => B.sh a k + B.th (a + k)
theorem rm_sm (B : Bak) (a : Nat) : ∀ k, B.rm a k (B.st a) = B.sm a k
  | 0 => rfl
  | k + 1 => by
    show B.rm a k (B.st a) + _ = B.sm a k + _
    rw [rm_sm B a k, ← st_rf]
    rfl
theorem rt_sh (B : Bak) (a : Nat) : ∀ k, B.rt a k (B.st a) = B.sh a k
  | 0 => rfl
  | k + 1 => by
    show B.rt a k (B.st a) + _ = B.sh a k + _
    rw [rt_sh B a k, ← st_rf]
    rfl
theorem sm_add (B : Bak) (a b : Nat) : ∀ k, B.sm a (b + k) = B.sm a b + B.sm (a + b) k
  | 0 => (Int.add_zero _).symm
  | k + 1 => by
    show B.sm a (b + k) + B.ms (a + (b + k)) = B.sm a b + (B.sm (a + b) k + B.ms (a + b + k))
    rw [sm_add B a b k, Nat.add_assoc]
    omega
theorem sh_add (B : Bak) (a b : Nat) : ∀ k, B.sh a (b + k) = B.sh a b + B.sh (a + b) k
  | 0 => (Int.add_zero _).symm
  | k + 1 => by
    show B.sh a (b + k) + B.th (a + (b + k)) = B.sh a b + (B.sh (a + b) k + B.th (a + b + k))
    rw [sh_add B a b k, Nat.add_assoc]
    omega
/-- g does what the k days from a on do -/
structure IsRun (B : Bak) (a k : Nat) (g : Eff) : Prop where
  ok : g.Ok
  fin : ∀ s, g.fin s = B.rf a k s
  mis : ∀ s, g.mis s = B.rm a k s
  thr : ∀ s, g.thr s = B.rt a k s
theorem isRun_one {B : Bak} (h : B.Ok) (a : Nat) : IsRun B a 1 (B.eff (a : Nat)) := ⟨h.effOk _, fun _ => rfl, fun _ => (Int.zero_add _).symm, fun _ => (Int.zero_add _).symm⟩
theorem IsRun.next {B : Bak} (h : B.Ok) {a k : Nat} {g : Eff} (r : IsRun B a k g) : IsRun B a (k + 1) (g.seq (B.eff ((a + k : Nat) : Int))) :=
  ⟨seq_ok r.ok (h.effOk _), fun s => by rw [seq_fin r.ok (h.effOk _), r.fin]; rfl, fun s => by rw [seq_mis r.ok, r.mis, r.fin]; rfl, fun s => by rw [seq_thr r.ok, r.thr, r.fin]; rfl⟩
/-! ### the days repeat -/
theorem bk_per {B : Bak} (d : Int) (h : 0 ≤ d) : B.bk (d + B.n) = B.bk d := by
  unfold Bak.bk
  rw [if_pos h, if_pos (by omega), Int.add_emod_right]
theorem wish_per {B : Bak} (d : Int) : B.wish (d + B.n) = B.wish d := by
  unfold Bak.wish
  rw [Int.add_emod_right]
theorem eff_per {B : Bak} {d : Nat} (h : (B.life - 1).toNat ≤ d) : B.eff ((d + B.n : Nat) : Int) = B.eff (d : Int) := by
  unfold Bak.eff
  have e1 : ((d + B.n : Nat) : Int) = (d : Int) + B.n := by omega
  rw [e1, bk_per _ (by omega), wish_per]
  have e2 : B.kept ((d : Int) + B.n) = B.kept d := by
    unfold Bak.kept
    congr 1
    refine List.map_congr_left fun a ha => ?_
    have lt := List.mem_range.mp ha
    have e3 : (d : Int) + B.n - (a : Nat) = ((d : Int) - (a : Nat)) + B.n := by omega
    rw [e3, bk_per _ (by omega)]
  rw [e2]
theorem eff_per2 {B : Bak} {d : Nat} (h : (B.life - 1).toNat ≤ d) : ∀ t : Nat, B.eff ((d + t * B.n : Nat) : Int) = B.eff (d : Int)
  | 0 => by
    rw [Nat.zero_mul]
    rfl
  | t + 1 => by
    have e : d + (t + 1) * B.n = (d + t * B.n) + B.n := by
      rw [Nat.add_mul]
      omega
    rw [e, eff_per (by omega)]
    exact eff_per2 h t
theorem IsRun.later {B : Bak} {a k : Nat} {g : Eff} (r : IsRun B a k g) (h : (B.life - 1).toNat ≤ a) (t : Nat) : IsRun B (a + t * B.n) k g := by
  have e1 : ∀ k : Nat, B.eff ((a + t * B.n + k : Nat) : Int) = B.eff ((a + k : Nat) : Int) := fun k => by
    have e : a + t * B.n + k = (a + k) + t * B.n := by omega
    rw [e]
    exact eff_per2 (by omega) t
  have e2 : ∀ (k : Nat) (s : Int), B.rf (a + t * B.n) k s = B.rf a k s := fun k s => by
    induction k with
    | zero => rfl
    | succ k ih =>
      show (B.eff ((a + t * B.n + k : Nat) : Int)).fin _ = (B.eff ((a + k : Nat) : Int)).fin _
      rw [e1, ih]
  have e3 : ∀ (k : Nat) (s : Int), B.rm (a + t * B.n) k s = B.rm a k s := fun k s => by
    induction k with
    | zero => rfl
    | succ k ih =>
      show _ + (B.eff ((a + t * B.n + k : Nat) : Int)).mis _ = _ + (B.eff ((a + k : Nat) : Int)).mis _
      rw [e1, ih, e2]
  have e4 : ∀ (k : Nat) (s : Int), B.rt (a + t * B.n) k s = B.rt a k s := fun k s => by
    induction k with
    | zero => rfl
    | succ k ih =>
      show _ + (B.eff ((a + t * B.n + k : Nat) : Int)).thr _ = _ + (B.eff ((a + k : Nat) : Int)).thr _
      rw [e1, ih, e2]
  exact ⟨r.ok, fun s => by rw [e2]; exact r.fin s, fun s => by rw [e3]; exact r.mis s, fun s => by rw [e4]; exact r.thr s⟩
/-- whole rounds -/
theorem IsRun.rounds {B : Bak} {a : Nat} {g : Eff} (r : IsRun B a B.n g) (h : (B.life - 1).toNat ≤ a) : ∀ t : Nat, itf g t (B.st a) = B.st (a + t * B.n) ∧ itm g t (B.st a) = B.sm a (t * B.n) ∧ itt g t (B.st a) = B.sh a (t * B.n)
  | 0 => by
    rw [Nat.zero_mul]
    exact ⟨rfl, rfl, rfl⟩
  | t + 1 => by
    obtain ⟨h1, h2, h3⟩ := r.rounds h t
    have q := r.later h t
    have e : (t + 1) * B.n = t * B.n + B.n := by
      rw [Nat.add_mul]
      omega
    rw [e]
    refine ⟨?_, ?_, ?_⟩
    · show g.fin (itf g t (B.st a)) = _
      rw [h1, q.fin, ← Nat.add_assoc, st_rf B (a + t * B.n)]
    · show itm g t (B.st a) + g.mis (itf g t (B.st a)) = _
      rw [h1, h2, q.mis, rm_sm, sm_add]
    · show itt g t (B.st a) + g.thr (itf g t (B.st a)) = _
      rw [h1, h3, q.thr, rt_sh, sh_add]
/-- the stocks repeat from day d on, and not from any day before -/
def Settled (B : Bak) (d : Nat) : Prop := (∀ j, d ≤ j → B.st (j + B.n) = B.st j) ∧ (0 < d → B.st (d - 1 + B.n) ≠ B.st (d - 1))
theorem settles_from {B : Bak} {a : Nat} (h : (B.life - 1).toNat ≤ a) (e : B.st (a + B.n) = B.st a) : ∀ j, a ≤ j → B.st (j + B.n) = B.st j := fun j hj => by
  obtain ⟨k, rfl⟩ : ∃ k, j = a + k := ⟨j - a, by omega⟩
  clear hj
  induction k with
  | zero => exact e
  | succ k ih =>
    have e2 : a + (k + 1) + B.n = (a + k + B.n) + 1 := by omega
    rw [e2]
    show (B.eff ((a + k + B.n : Nat) : Int)).fin (B.st (a + k + B.n)) = (B.eff ((a + k : Nat) : Int)).fin (B.st (a + k))
    rw [ih, eff_per (by omega)]
/-! ### what the customers want in all -/
def Bak.ws (B : Bak) : Nat → Int
  | 0 => 0
  | k + 1 => B.ws k + B.wish (k : Nat)
theorem wish_low {B : Bak} (h : B.Ok) {q r : Nat} (lt : r < B.n) : B.wish ((q * B.n + r : Nat) : Int) = B.dems.getD r 0 := by
  unfold Bak.wish
  have e : (((q * B.n + r : Nat) : Int) % (B.n : Nat)).toNat = r := by
    have e2 : ((q * B.n + r : Nat) : Int) % (B.n : Nat) = (((q * B.n + r) % B.n : Nat) : Int) := rfl
    rw [e2, Nat.mul_comm, Nat.mul_add_mod, Nat.mod_eq_of_lt lt]
    rfl
  rw [e]
theorem take_next : ∀ (l : List Int) (r : Nat), r < l.length → (l.take (r + 1)).sum = (l.take r).sum + l.getD r 0
  | a :: l, 0, _ => by simp
  | a :: l, r + 1, h => by
    have z := take_next l r (by simpa using h)
    simp only [List.take_succ_cons, List.sum_cons, List.getD_cons_succ] at z ⊢
    omega
theorem ws_rest {B : Bak} (h : B.Ok) (q : Nat) : ∀ r, r ≤ B.n → B.ws (q * B.n + r) = B.ws (q * B.n) + (B.dems.take r).sum
  | 0, _ => by simp
  | r + 1, le => by
    have z := ws_rest h q r (by omega)
    have m := h.m
    rw [take_next B.dems r (by omega), ← Int.add_assoc, ← z, ← wish_low h (q := q) (r := r) (by omega)]
    rfl
theorem ws_rounds {B : Bak} (h : B.Ok) : ∀ q : Nat, B.ws (q * B.n) = q * B.dems.sum
  | 0 => by
    rw [Nat.zero_mul]
    show (0 : Int) = 0 * _
    rw [Int.zero_mul]
  | q + 1 => by
    have e : (q + 1) * B.n = q * B.n + B.n := by
      rw [Nat.add_mul]
      omega
    have m := h.m
    have t : B.dems.take B.n = B.dems := List.take_of_length_le (by omega)
    rw [e, ws_rest h q B.n (Nat.le_refl _), ws_rounds h q, t, Int.natCast_add, Int.add_mul]
    omega
theorem ws_eq {B : Bak} (h : B.Ok) (k : Nat) : ((k / B.n : Nat) : Int) * B.dems.sum + (B.dems.take (k % B.n)).sum = B.ws k := by
  have z := ws_rest h (k / B.n) (k % B.n) (Nat.le_of_lt (Nat.mod_lt _ h.n0))
  have e : k / B.n * B.n + k % B.n = k := by rw [Nat.mul_comm]; exact Nat.div_add_mod _ _
  rw [e, ws_rounds h] at z
  exact z.symm
theorem sum_le : ∀ {l : List Int} {c : Int}, (∀ x ∈ l, x ≤ c) → l.sum ≤ l.length * c
  | [], _, _ => by simp
  | a :: l, c, h => by
    rw [List.sum_cons, List.length_cons]
    have h1 := h a (by simp)
    have h2 := sum_le (l := l) (c := c) fun x hx => h x (by simp [hx])
    rw [Int.natCast_add, Int.add_mul]
    omega
theorem Bak.Ok.dsum {B : Bak} (h : B.Ok) : 0 ≤ B.dems.sum ∧ B.dems.sum ≤ 24000000000 := by
  refine ⟨sum_nonneg fun x hx => (h.d x hx).1, ?_⟩
  have z := sum_le (l := B.dems) (c := 1000000000) fun x hx => (h.d x hx).2
  have m := h.m
  have n1 := h.n1
  have e : (B.dems.length : Int) ≤ 24 := by omega
  omega
theorem sum_next (f : Nat → Int) (m : Nat) : ((List.range (m + 1)).map f).sum = ((List.range m).map f).sum + f m := by
  rw [List.range_succ, List.map_append, List.sum_append]
  simp
theorem sum_ms (B : Bak) : ∀ m, ((List.range m).map B.ms).sum = B.sm 0 m
  | 0 => rfl
  | m + 1 => by
    rw [sum_next, sum_ms B m]
    show _ = B.sm 0 m + B.ms (0 + m)
    rw [Nat.zero_add]
theorem sum_th (B : Bak) : ∀ m, ((List.range m).map B.th).sum = B.sh 0 m
  | 0 => rfl
  | m + 1 => by
    rw [sum_next, sum_th B m]
    show _ = B.sh 0 m + B.th (0 + m)
    rw [Nat.zero_add]
theorem sum_sold (B : Bak) : ∀ m, ((List.range m).map fun j : Nat => B.wish j - B.ms j).sum = B.ws m - B.sm 0 m
  | 0 => rfl
  | m + 1 => by
    rw [sum_next, sum_sold B m]
    show _ = (B.ws m + B.wish (m : Nat)) - (B.sm 0 m + B.ms (0 + m))
    rw [Nat.zero_add]
    omega
/-! ### the loaves on the shelf -/
/-- behind the ages 1 to i: what is left of the stock, and what was found -/
def Bak.sg (B : Bak) (d : Nat) : Nat → Int × List (Int × Int)
  | 0 => (B.st d, [])
  | i + 1 =>
    let z := B.sg d i
    let c := min z.1 (B.bk ((d : Int) - (1 + (i : Nat))))
    (z.1 - c, if 0 < c then z.2 ++ [((d : Int) - (1 + (i : Nat)), c)] else z.2)
theorem sg_len (B : Bak) (d : Nat) : ∀ i, (B.sg d i).2.length ≤ i
  | 0 => Nat.le_refl _
  | i + 1 => by
    have z := sg_len B d i
    unfold Bak.sg
    simp only
    split
    · simp
      exact z
    · omega
/-- the shelf: the oldest first -/
def Bak.shelf (B : Bak) (d : Nat) : List (Int × Int) := (B.sg d (B.life - 1).toNat).2.reverse
end G57
end
section
/-! MSet: the plain law of settled bakeries. -/
namespace G57
theorem wish_per1 {B : Bak} (d : Nat) : B.wish ((d + B.n : Nat) : Int) = B.wish (d : Int) := by
  have e : ((d + B.n : Nat) : Int) = (d : Int) + B.n := by omega
  rw [e, wish_per]
theorem bk_per1 {B : Bak} (d : Nat) : B.bk ((d + B.n : Nat) : Int) = B.bk (d : Int) := by
  have e : ((d + B.n : Nat) : Int) = (d : Int) + B.n := by omega
  rw [e, bk_per _ (by omega)]
theorem ms_eq (B : Bak) (d : Nat) : B.ms d = max 0 (B.wish d - B.bk d - B.st d) := by
  unfold Bak.ms Bak.eff dayE Eff.mis
  simp only
  omega
/-- what was in stock and is baked is sold, thrown away or left -/
theorem flow {B : Bak} (h : B.Ok) (d : Nat) : B.th d = B.st d + B.bk d - (B.wish d - B.ms d) - B.st (d + 1) := by
  have k0 := h.kept0 d
  have s0 := st_in h d
  have e : B.st (d + 1) = (B.eff (d : Nat)).fin (B.st d) := rfl
  rw [e]
  unfold Bak.th Bak.ms Bak.eff dayE Eff.mis Eff.thr Eff.fin
  simp only
  omega
theorem ms_per {B : Bak} {d : Nat} (e : B.st (d + B.n) = B.st d) : B.ms (d + B.n) = B.ms d := by
  rw [ms_eq, ms_eq, wish_per1, bk_per1, e]
theorem th_per {B : Bak} (h : B.Ok) {d : Nat} (e : B.st (d + B.n) = B.st d) (e2 : B.st (d + 1 + B.n) = B.st (d + 1)) : B.th (d + B.n) = B.th d := by
  have z : d + B.n + 1 = d + 1 + B.n := by omega
  rw [flow h, flow h, ms_per e, wish_per1, bk_per1, e, z, e2]
/-- the sums over a round, from any settled day -/
theorem sm_shift {B : Bak} (h : B.Ok) {D : Nat} (s : Settled B D) : ∀ k, B.sm (D + k) B.n = B.sm D B.n ∧ B.sh (D + k) B.n = B.sh D B.n
  | 0 => ⟨rfl, rfl⟩
  | k + 1 => by
    obtain ⟨h1, h2⟩ := sm_shift h s k
    have n0 := h.n0
    have a1 := sm_add B (D + k) 1 B.n
    have a2 := sm_add B (D + k) B.n 1
    have b1 := sh_add B (D + k) 1 B.n
    have b2 := sh_add B (D + k) B.n 1
    have c : 1 + B.n = B.n + 1 := by omega
    rw [c] at a1 b1
    have p1 := ms_per (B := B) (s.1 (D + k) (by omega))
    have p2 := th_per h (s.1 (D + k) (by omega)) (s.1 (D + k + 1) (by omega))
    have u1 : B.sm (D + k + B.n) 1 = B.ms (D + k + B.n) := by
      show (0 : Int) + B.ms (D + k + B.n + 0) = _
      simp
    have u2 : B.sh (D + k + B.n) 1 = B.th (D + k + B.n) := by
      show (0 : Int) + B.th (D + k + B.n + 0) = _
      simp
    have v1 : B.sm (D + k) 1 = B.ms (D + k) := by
      show (0 : Int) + B.ms (D + k + 0) = _
      simp
    have v2 : B.sh (D + k) 1 = B.th (D + k) := by
      show (0 : Int) + B.th (D + k + 0) = _
      simp
    have e : D + (k + 1) = D + k + 1 := by omega
    rw [e]
    omega
theorem sm_from {B : Bak} (h : B.Ok) {D R : Nat} (s : Settled B D) (l : D ≤ R) : B.sm R B.n = B.sm D B.n ∧ B.sh R B.n = B.sh D B.n := by
  have z := sm_shift h s (R - D)
  have e : D + (R - D) = R := by omega
  rw [e] at z
  exact z
/-- whole rounds behind a settled day -/
theorem sm_rounds {B : Bak} (h : B.Ok) {D a : Nat} (s : Settled B D) (l : D ≤ a) : ∀ t : Nat, B.sm a (t * B.n) = t * B.sm D B.n ∧ B.sh a (t * B.n) = t * B.sh D B.n
  | 0 => by
    rw [Nat.zero_mul]
    constructor
    · show (0 : Int) = 0 * _
      rw [Int.zero_mul]
    · show (0 : Int) = 0 * _
      rw [Int.zero_mul]
  | t + 1 => by
    obtain ⟨h1, h2⟩ := sm_rounds h s l t
    obtain ⟨h3, h4⟩ := sm_from h s (show D ≤ a + t * B.n by omega)
    have e : (t + 1) * B.n = t * B.n + B.n := by
      rw [Nat.add_mul]
      omega
    rw [e, sm_add, sh_add, h1, h2, h3, h4, Int.natCast_add, Int.add_mul, Int.add_mul]
    constructor <;> omega
theorem ws_add {B : Bak} (h : B.Ok) (a t : Nat) : B.ws (a + t * B.n) = B.ws a + t * B.dems.sum := by
  have n0 := h.n0
  rw [← ws_eq h, ← ws_eq h a, Nat.add_mul_div_right _ _ n0, Nat.add_mul_mod_self_right, Int.natCast_add, Int.add_mul]
  omega
theorem settled_uniq {B : Bak} {D E : Nat} (h : Settled B D) (k : Settled B E) : D = E := by
  rcases Nat.lt_trichotomy D E with lt | e | gt
  · exact absurd (h.1 (E - 1) (by omega)) (k.2 (by omega))
  · exact e
  · exact absurd (k.1 (D - 1) (by omega)) (h.2 (by omega))
/-! ### stocks never fall from round to round -/
theorem kept_up {B : Bak} (h : B.Ok) (d : Nat) : B.kept (d : Int) ≤ B.kept ((d + B.n : Nat) : Int) := by
  unfold Bak.kept
  have le : ∀ (f g : Nat → Int) (k : Nat), (∀ i, i < k → f i ≤ g i) → ((List.range k).map f).sum ≤ ((List.range k).map g).sum := fun f g k => by
    induction k with
    | zero => exact fun _ => Int.le_refl _
    | succ k ih =>
      intro z
      rw [sum_next, sum_next]
      have := ih fun i hi => z i (by omega)
      have := z k (by omega)
      omega
  refine le _ _ _ fun i _ => ?_
  by_cases c : (0 : Int) ≤ (d : Int) - (i : Nat)
  · have e : ((d + B.n : Nat) : Int) - (i : Nat) = ((d : Int) - (i : Nat)) + B.n := by omega
    rw [e, bk_per _ c]
    exact Int.le_refl _
  · have z : B.bk ((d : Int) - (i : Nat)) = 0 := by
      unfold Bak.bk
      rw [if_neg c]
    rw [z]
    exact (h.bk_in _).1
theorem st_up {B : Bak} (h : B.Ok) : ∀ d : Nat, B.st d ≤ B.st (d + B.n)
  | 0 => st_in h _
  | d + 1 => by
    have ih := st_up h d
    have k := kept_up h d
    have k0 := h.kept0 d
    have e : d + 1 + B.n = d + B.n + 1 := by omega
    rw [e]
    show (B.eff (d : Nat)).fin (B.st d) ≤ (B.eff ((d + B.n : Nat) : Int)).fin (B.st (d + B.n))
    unfold Bak.eff dayE Eff.fin
    simp only
    rw [wish_per1, bk_per1]
    omega
theorem ms_down {B : Bak} (h : B.Ok) (d : Nat) : B.ms (d + B.n) ≤ B.ms d := by
  have z := st_up h d
  rw [ms_eq, ms_eq, wish_per1, bk_per1]
  omega
/-! ### the settled day is not far -/
theorem settles_in {e : Eff} (h : e.Ok) (s : Int) : ∃ n, n ≤ (e.high - e.low + 1).toNat + 1 ∧ e.fin (itf e n s) = itf e n s := by
  false_or_by_contra
  rename_i no
  have c := h.le
  by_cases up : itf e 1 s ≤ itf e 2 s
  · have mono : ∀ n, itf e (n + 1) s ≤ itf e (n + 2) s := fun n => by
      induction n with
      | zero => exact up
      | succ n ih => exact fin_mono h ih
    have grow : ∀ n : Nat, n ≤ (e.high - e.low + 1).toNat → e.low + n ≤ itf e (n + 1) s := fun n => by
      induction n with
      | zero => exact fun _ => Int.le_trans (by simp) (itf_in h (by omega) s).1
      | succ n ih =>
        intro hn
        have z := ih (by omega)
        have ne : e.fin (itf e (n + 1) s) ≠ itf e (n + 1) s := fun z => no ⟨_, by omega, z⟩
        have le := mono n
        have eq : itf e (n + 2) s = e.fin (itf e (n + 1) s) := rfl
        rw [eq] at le ⊢
        omega
    have a := grow (e.high - e.low + 1).toNat (Nat.le_refl _)
    have b := (itf_in h (show 0 < (e.high - e.low + 1).toNat + 1 from Nat.succ_pos _) s).2
    omega
  · have mono : ∀ n, itf e (n + 2) s ≤ itf e (n + 1) s := fun n => by
      induction n with
      | zero => exact Int.le_of_lt (Int.not_le.mp up)
      | succ n ih => exact fin_mono h ih
    have grow : ∀ n : Nat, n ≤ (e.high - e.low + 1).toNat → itf e (n + 1) s ≤ e.high - n := fun n => by
      induction n with
      | zero => exact fun _ => Int.le_trans (itf_in h (by omega) s).2 (by simp)
      | succ n ih =>
        intro hn
        have z := ih (by omega)
        have ne : e.fin (itf e (n + 1) s) ≠ itf e (n + 1) s := fun z => no ⟨_, by omega, z⟩
        have le := mono n
        have eq : itf e (n + 2) s = e.fin (itf e (n + 1) s) := rfl
        rw [eq] at le ⊢
        omega
    have a := grow (e.high - e.low + 1).toNat (Nat.le_refl _)
    have b := (itf_in h (show 0 < (e.high - e.low + 1).toNat + 1 from Nat.succ_pos _) s).1
    omega
theorem run_ex {B : Bak} (h : B.Ok) (a : Nat) : ∀ k : Nat, 0 < k → ∃ g, IsRun B a k g
  | 1, _ => ⟨_, isRun_one h a⟩
  | k + 2, _ => let ⟨g, r⟩ := run_ex h a (k + 1) (Nat.succ_pos k); ⟨_, r.next h⟩
theorem kept_le {B : Bak} (h : B.Ok) (d : Int) : B.kept d ≤ 29000000000 := by
  unfold Bak.kept
  have z := sum_le (l := (List.range (B.life - 1).toNat).map fun a : Nat => B.bk (d - a)) (c := 1000000000) fun x hx => by
    obtain ⟨a, _, rfl⟩ := List.mem_map.mp hx
    exact (h.bk_in _).2
  have l0 := h.l0
  have l1 := h.l1
  rw [List.length_map, List.length_range] at z
  have e : (((B.life - 1).toNat : Nat) : Int) ≤ 29 := by omega
  omega
theorem rf_in {B : Bak} (h : B.Ok) (a : Nat) (s : Int) : ∀ k : Nat, 0 < k → 0 ≤ B.rf a k s ∧ B.rf a k s ≤ 29000000000
  | k + 1, _ => by
    have z := fin_in (h.effOk ((a + k : Nat) : Int)) (B.rf a k s)
    have k1 := kept_le h ((a + k : Nat) : Int)
    have e1 : (B.eff ((a + k : Nat) : Int)).low = 0 := rfl
    have e2 : (B.eff ((a + k : Nat) : Int)).high = B.kept ((a + k : Nat) : Int) := rfl
    show 0 ≤ (B.eff ((a + k : Nat) : Int)).fin (B.rf a k s) ∧ (B.eff ((a + k : Nat) : Int)).fin (B.rf a k s) ≤ 29000000000
    omega
theorem settled_le {B : Bak} (h : B.Ok) {D : Nat} (s : Settled B D) : D ≤ 1000000000000 := by
  obtain ⟨g, r⟩ := run_ex h B.last B.n h.n0
  have hl : g.high = B.rf B.last B.n (g.high - g.shift) := by
    rw [← r.fin]
    have := r.ok.le
    unfold Eff.fin
    omega
  have hw : g.low = B.rf B.last B.n (g.low - g.shift) := by
    rw [← r.fin]
    have := r.ok.le
    unfold Eff.fin
    omega
  have i1 := (rf_in h B.last (g.high - g.shift) B.n h.n0).2
  have i2 := (rf_in h B.last (g.low - g.shift) B.n h.n0).1
  rw [← hl] at i1
  rw [← hw] at i2
  obtain ⟨m, hm, e⟩ := settles_in r.ok (B.st B.last)
  have rd := (r.rounds h.last_ge m).1
  have lt := h.last_lt
  have l1 := h.l1
  have n1 := h.n1
  have later := r.later h.last_ge m
  rw [rd, later.fin, ← st_rf] at e
  have per := settles_from (Nat.le_trans h.last_ge (Nat.le_add_right _ (m * B.n))) e
  have dl : D ≤ B.last + m * B.n := by
    false_or_by_contra
    rename_i c
    refine s.2 (by omega) (per _ (by omega))
  have mb : m * B.n ≤ 29000000002 * 24 := Nat.mul_le_mul (by omega) n1
  omega
end G57
end
section
/-! MMore: more loaves, a longer life: never more is missed. -/
namespace G57
/-- C has at least the loaves of B -/
structure Below (B C : Bak) : Prop where
  n : C.n = B.n
  d : C.dems = B.dems
  b : ∀ d : Nat, B.bk (d : Int) ≤ C.bk (d : Int)
  k : ∀ d : Nat, B.kept (d : Int) ≤ C.kept (d : Int)
section
variable {B C : Bak}
theorem Below.w (h : Below B C) (d : Int) : C.wish d = B.wish d := by
  unfold Bak.wish
  rw [h.n, h.d]
theorem Below.st (h : Below B C) (hB : B.Ok) (hC : C.Ok) : ∀ d : Nat, B.st d ≤ C.st d
  | 0 => Int.le_refl _
  | d + 1 => by
    have ih := h.st hB hC d
    have b := h.b d
    have k := h.k d
    have k0 := hB.kept0 d
    show (B.eff (d : Nat)).fin (B.st d) ≤ (C.eff (d : Nat)).fin (C.st d)
    unfold Bak.eff dayE Eff.fin
    simp only
    rw [h.w]
    omega
theorem Below.ms (h : Below B C) (hB : B.Ok) (hC : C.Ok) (d : Nat) : C.ms d ≤ B.ms d := by
  have s := h.st hB hC d
  have b := h.b d
  rw [ms_eq, ms_eq, h.w]
  omega
theorem Below.sm (h : Below B C) (hB : B.Ok) (hC : C.Ok) (a : Nat) : ∀ k : Nat, C.sm a k ≤ B.sm a k
  | 0 => Int.le_refl _
  | k + 1 => by
    have ih := h.sm hB hC a k
    have m := h.ms hB hC (a + k)
    show C.sm a k + C.ms (a + k) ≤ B.sm a k + B.ms (a + k)
    omega
end
/-- what is missed per round in the long run -/
noncomputable def Bak.lost (B : Bak) : Int := open Classical in if h : ∃ D, Settled B D then B.sm h.choose B.n else 0
theorem lost_eq {B : Bak} {D : Nat} (s : Settled B D) : B.lost = B.sm D B.n := by
  have h : ∃ D, Settled B D := ⟨D, s⟩
  unfold Bak.lost
  rw [dif_pos h, settled_uniq h.choose_spec s]
theorem Below.lost {B C : Bak} (h : Below B C) (hB : B.Ok) (hC : C.Ok) {D E : Nat} (sB : Settled B D) (sC : Settled C E) : C.lost ≤ B.lost := by
  have e1 := (sm_from hB sB (show D ≤ max D E by omega)).1
  have e2 := (sm_from hC sC (show E ≤ max D E by omega)).1
  rw [lost_eq sB, lost_eq sC, ← e1, ← e2, h.n]
  exact h.sm hB hC _ _
theorem ms_in {B : Bak} (h : B.Ok) (d : Nat) : 0 ≤ B.ms d ∧ B.ms d ≤ B.wish d := by
  have w := h.wish_in d
  have b := h.bk_in d
  have s := st_in h d
  rw [ms_eq]
  omega
theorem ws_from {B : Bak} (h : B.Ok) (a : Nat) : ∀ k : Nat, 0 ≤ B.sm a k ∧ B.sm a k ≤ B.ws (a + k) - B.ws a
  | 0 => by
    show (0 : Int) ≤ 0 ∧ (0 : Int) ≤ _
    rw [Nat.add_zero]
    omega
  | k + 1 => by
    have ih := ws_from h a k
    have m := ms_in h (a + k)
    have e : B.ws (a + (k + 1)) = B.ws (a + k) + B.wish ((a + k : Nat) : Int) := rfl
    show 0 ≤ B.sm a k + B.ms (a + k) ∧ B.sm a k + B.ms (a + k) ≤ _
    omega
theorem round_in {B : Bak} (h : B.Ok) (D : Nat) : 0 ≤ B.sm D B.n ∧ B.sm D B.n ≤ B.dems.sum := by
  have z := ws_from h D B.n
  have e := ws_add h D 1
  rw [Nat.one_mul] at e
  simp at e
  omega
/-! ### every bakery settles -/
theorem settled_ex {B : Bak} (h : B.Ok) : ∃ D, Settled B D := by
  obtain ⟨g, r⟩ := run_ex h B.last B.n h.n0
  obtain ⟨m, e⟩ := settles r.ok (B.st B.last)
  have rd := (r.rounds h.last_ge m).1
  have later := r.later h.last_ge m
  rw [rd, later.fin, ← st_rf] at e
  have per := settles_from (Nat.le_trans h.last_ge (Nat.le_add_right _ (m * B.n))) e
  obtain ⟨D, hD, hm⟩ := least_of (p := fun a => ∀ j, a ≤ j → B.st (j + B.n) = B.st j) ⟨_, per⟩
  refine ⟨D, hD, fun h0 z => hm (D - 1) (by omega) fun j hj => ?_⟩
  by_cases ej : j = D - 1
  · rw [ej]
    exact z
  · exact hD j (by omega)
theorem lost_in {B : Bak} (h : B.Ok) : 0 ≤ B.lost ∧ B.lost ≤ B.dems.sum := by
  obtain ⟨D, s⟩ := settled_ex h
  rw [lost_eq s]
  exact round_in h D
/-! ### a longer life, more baking -/
def Bak.liv (B : Bak) (l : Int) : Bak := ⟨B.bakes, B.dems, l⟩
def Bak.mor (B : Bak) (c : Int) : Bak := ⟨B.bakes.map fun x => x + c, B.dems, B.life⟩
theorem sum_more {f : Nat → Int} (h : ∀ j, 0 ≤ f j) {a b : Nat} (l : a ≤ b) : ((List.range a).map f).sum ≤ ((List.range b).map f).sum := by
  obtain ⟨k, rfl⟩ : ∃ k, b = a + k := ⟨b - a, by omega⟩
  clear l
  induction k with
  | zero => exact Int.le_refl _
  | succ k ih =>
    have e : a + (k + 1) = (a + k) + 1 := by omega
    rw [e, sum_next]
    have := h (a + k)
    omega
theorem liv_below {B : Bak} (h : B.Ok) {l m : Int} (le : l ≤ m) : Below (B.liv l) (B.liv m) :=
  ⟨rfl, rfl, fun d => Int.le_refl _, fun d => sum_more (f := fun a : Nat => B.bk ((d : Int) - (a : Nat))) (fun j => (h.bk_in _).1) (show (l - 1).toNat ≤ (m - 1).toNat by omega)⟩
theorem mor_n {B : Bak} {c : Int} : (B.mor c).n = B.n := by
  unfold Bak.n Bak.mor
  simp
theorem mor_bk {B : Bak} (h : B.Ok) {c d : Int} (h0 : 0 ≤ d) : (B.mor c).bk d = B.bk d + c := by
  have z := (h.ix d).1
  unfold Bak.bk
  rw [if_pos h0, if_pos h0, mor_n, List.getD_eq_getElem?_getD, List.getD_eq_getElem?_getD]
  show ((B.bakes.map fun x => x + c)[(d % (B.n : Nat)).toNat]?).getD 0 = _
  rw [List.getElem?_map, List.getElem?_eq_getElem (show (d % (B.n : Nat)).toNat < B.bakes.length from z)]
  rfl
theorem mor_bk0 {B : Bak} {c d : Int} (h0 : ¬ 0 ≤ d) : (B.mor c).bk d = 0 := by
  unfold Bak.bk
  rw [if_neg h0]
theorem mor_below {B : Bak} (h : B.Ok) {c e : Int} (le : c ≤ e) : Below (B.mor c) (B.mor e) := by
  have b : ∀ d : Int, (B.mor c).bk d ≤ (B.mor e).bk d := fun d => by
    by_cases h0 : 0 ≤ d
    · rw [mor_bk h h0, mor_bk h h0]
      omega
    · rw [mor_bk0 h0, mor_bk0 h0]
      exact Int.le_refl _
  refine ⟨by rw [mor_n, mor_n], rfl, fun d => b d, fun d => ?_⟩
  have z : ∀ k : Nat, ((List.range k).map fun a : Nat => (B.mor c).bk ((d : Int) - (a : Nat))).sum ≤ ((List.range k).map fun a : Nat => (B.mor e).bk ((d : Int) - (a : Nat))).sum := fun k => by
    induction k with
    | zero => exact Int.le_refl _
    | succ k ih =>
      rw [sum_next, sum_next]
      have := b ((d : Int) - (k : Nat))
      omega
  exact z (B.life - 1).toNat
theorem liv_ok {B : Bak} (h : B.Ok) {x : Int} (l0 : 1 ≤ x) (l1 : x ≤ 30) : (B.liv x).Ok := ⟨h.n0, h.n1, h.m, l0, l1, h.b, h.d⟩
theorem mor_ok {B : Bak} (h : B.Ok) {c : Int} (hb : ∀ x ∈ B.bakes, 0 ≤ x + c ∧ x + c ≤ 1000000000) : (B.mor c).Ok :=
  ⟨by rw [mor_n]; exact h.n0, by rw [mor_n]; exact h.n1, by rw [mor_n]; exact h.m, h.l0, h.l1, fun x hx => by
    obtain ⟨y, hy, rfl⟩ := List.mem_map.mp hx
    exact hb y hy, h.d⟩
theorem liv_lost {B : Bak} (h : B.Ok) {l m : Int} (l0 : 1 ≤ l) (le : l ≤ m) (m1 : m ≤ 30) : (B.liv m).lost ≤ (B.liv l).lost := by
  have o1 := liv_ok h l0 (show l ≤ 30 by omega)
  have o2 := liv_ok h (show 1 ≤ m by omega) m1
  obtain ⟨D, s⟩ := settled_ex o1
  obtain ⟨E, t⟩ := settled_ex o2
  exact (liv_below h le).lost o1 o2 s t
theorem mor_lost {B : Bak} (h : B.Ok) {c e : Int} (le : c ≤ e) (o1 : (B.mor c).Ok) (o2 : (B.mor e).Ok) : (B.mor e).lost ≤ (B.mor c).lost := by
  obtain ⟨D, s⟩ := settled_ex o1
  obtain ⟨E, t⟩ := settled_ex o2
  exact (mor_below h le).lost o1 o2 s t
/-- the first place of a filtered range -/
theorem filter_head {p : Nat → Bool} {n k : Nat} {r : List Nat} (h : (List.range n).filter p = k :: r) : p k = true ∧ k < n ∧ ∀ j, j < k → p j = false := by
  have hm : k ∈ (List.range n).filter p := by
    rw [h]
    simp
  obtain ⟨h1, h2⟩ := List.mem_filter.mp hm
  refine ⟨h2, List.mem_range.mp h1, fun j hj => ?_⟩
  cases e : p j with
  | false => rfl
  | true =>
    exfalso
    have hj2 : j ∈ (List.range n).filter p := List.mem_filter.mpr ⟨List.mem_range.mpr (by have := List.mem_range.mp h1; omega), e⟩
    have pw : ((List.range n).filter p).Pairwise (· < ·) := List.Pairwise.filter _ List.pairwise_lt_range
    rw [h] at hj2 pw
    rcases List.mem_cons.mp hj2 with z | z
    · omega
    · have := (List.pairwise_cons.mp pw).1 j z
      omega
theorem filter_nil {p : Nat → Bool} {n : Nat} (h : (List.range n).filter p = []) : ∀ j, j < n → p j = false := fun j hj => by
  cases e : p j with
  | false => rfl
  | true =>
    have z : j ∈ (List.range n).filter p := List.mem_filter.mpr ⟨List.mem_range.mpr hj, e⟩
    rw [h] at z
    cases z
end G57
end
section
/-! MErr: the first fault of bakes, demands, life. -/
namespace G57
/-- a fault at a place -/
def badAt (xs : List Int) (k : Nat) : Bool := decide (k = 24) || !(decide (0 ≤ xs.getD k 0) && decide (xs.getD k 0 ≤ 1000000000))
def amErr (xs : List Int) : Option Nat := (List.range xs.length).find? (badAt xs)
theorem find_range {p : Nat → Bool} : ∀ {n k : Nat}, k < n → p k = true → (∀ j, j < k → p j = false) → (List.range n).find? p = some k := by
  intro n
  induction n with
  | zero => intro k h; omega
  | succ n ih =>
    intro k h hp hj
    rw [List.range_succ, List.find?_append]
    by_cases e : k < n
    · rw [ih e hp hj]
      rfl
    · have : k = n := by omega
      subst this
      have z : (List.range k).find? p = none := List.find?_eq_none.mpr fun j m => by
        rw [hj j (List.mem_range.mp m)]
        exact Bool.false_ne_true
      rw [z]
      simp [List.find?, hp]
theorem amErr_at {xs : List Int} {k : Nat} (h : k < xs.length) (b : badAt xs k = true) (f : ∀ j, j < k → badAt xs j = false) : amErr xs = some k := find_range h b f
theorem amErr_no {xs : List Int} (f : ∀ j, j < xs.length → badAt xs j = false) : amErr xs = none := List.find?_eq_none.mpr fun j m => by
  rw [f j (List.mem_range.mp m)]
  exact Bool.false_ne_true
theorem amErr_none {xs : List Int} (h : amErr xs = none) : xs.length ≤ 24 ∧ ∀ x ∈ xs, 0 ≤ x ∧ x ≤ 1000000000 := by
  have f : ∀ j, j < xs.length → badAt xs j = false := fun j l => by
    have z := List.find?_eq_none.mp h j (List.mem_range.mpr l)
    exact Bool.eq_false_iff.mpr z
  refine ⟨Nat.not_lt.mp fun l => ?_, fun x m => ?_⟩
  · have z := f 24 l
    unfold badAt at z
    simp at z
  · obtain ⟨j, l, rfl⟩ := List.mem_iff_getElem.mp m
    have z := f j l
    unfold badAt at z
    rw [List.getD_eq_getElem?_getD, List.getElem?_eq_getElem l] at z
    simp at z
    exact z.2
theorem badAt_of {xs : List Int} {k : Nat} {x : Int} (h : xs[k]? = some x) : badAt xs k = (decide (k = 24) || !(decide (0 ≤ x) && decide (x ≤ 1000000000))) := by
  unfold badAt
  rw [List.getD_eq_getElem?_getD, h]
  rfl
/-- the first fault -/
def bkErr (b e : List Int) (l : Int) : Option (Nat × Int) :=
  match amErr b with
  | some k => some (0, (k : Int))
  | none => if b = [] then some (0, -1) else
    match amErr e with
    | some k => some (1, (k : Int))
    | none => if e.length ≠ b.length then some (1, -1) else if 1 ≤ l ∧ l ≤ 30 then none else some (2, -1)
theorem bkErr_b {b e : List Int} {l : Int} {k : Nat} (h : amErr b = some k) : bkErr b e l = some (0, (k : Int)) := by
  unfold bkErr
  rw [h]
theorem bkErr_b0 {e : List Int} {l : Int} : bkErr [] e l = some (0, -1) := rfl
theorem bkErr_d {b e : List Int} {l : Int} {k : Nat} (h : amErr b = none) (n : b ≠ []) (h2 : amErr e = some k) : bkErr b e l = some (1, (k : Int)) := by
  unfold bkErr
  rw [h, h2]
  simp [n]
theorem bkErr_m {b e : List Int} {l : Int} (h : amErr b = none) (n : b ≠ []) (h2 : amErr e = none) (m : e.length ≠ b.length) : bkErr b e l = some (1, -1) := by
  unfold bkErr
  rw [h, h2]
  simp [n, m]
theorem bkErr_l {b e : List Int} {l : Int} (h : amErr b = none) (n : b ≠ []) (h2 : amErr e = none) (m : e.length = b.length) (x : l < 1 ∨ 30 < l) : bkErr b e l = some (2, -1) := by
  unfold bkErr
  rw [h, h2]
  have : ¬ (1 ≤ l ∧ l ≤ 30) := by omega
  simp [n, m, this]
theorem bkErr_no {b e : List Int} {l : Int} (h : amErr b = none) (n : b ≠ []) (h2 : amErr e = none) (m : e.length = b.length) (x : 1 ≤ l ∧ l ≤ 30) : bkErr b e l = none := by
  unfold bkErr
  rw [h, h2]
  simp [n, m, x]
theorem bkErr_ok {b e : List Int} {l : Int} (h : bkErr b e l = none) : (Bak.mk b e l).Ok := by
  unfold bkErr at h
  split at h
  · cases h
  · rename_i hb
    split at h
    · cases h
    · rename_i nb
      split at h
      · cases h
      · rename_i he
        split at h
        · cases h
        · rename_i m
          split at h
          · rename_i x
            obtain ⟨b1, b2⟩ := amErr_none hb
            obtain ⟨e1, e2⟩ := amErr_none he
            have m' : e.length = b.length := Classical.byContradiction m
            refine ⟨?_, b1, m', x.1, x.2, b2, e2⟩
            cases b with
            | nil => exact absurd rfl nb
            | cons => exact Nat.succ_pos _
          · cases h
theorem amErr_in {xs : List Int} (l : xs.length ≤ 24) (f : ∀ x ∈ xs, 0 ≤ x ∧ x ≤ 1000000000) : amErr xs = none := amErr_no fun j hj => by
  have z := f _ (List.getElem_mem hj)
  rw [badAt_of (List.getElem?_eq_getElem hj)]
  simp [z.1, z.2]
  omega
theorem Bak.Ok.nb {B : Bak} (h : B.Ok) : B.bakes ≠ [] := fun e => by
  have n0 := h.n0
  have : B.n = 0 := by unfold Bak.n; rw [e]; rfl
  omega
theorem ok_bkErr {B : Bak} (h : B.Ok) : bkErr B.bakes B.dems B.life = none := bkErr_no (amErr_in h.n1 h.b) h.nb (amErr_in (by rw [h.m]; exact h.n1) h.d) h.m ⟨h.l0, h.l1⟩
theorem life_bkErr {B : Bak} (h : B.Ok) {y : Int} (hy : y < 1 ∨ 30 < y) : bkErr B.bakes B.dems y = some (2, -1) := bkErr_l (amErr_in h.n1 h.b) h.nb (amErr_in (by rw [h.m]; exact h.n1) h.d) h.m hy
end G57
end
section
set_option maxRecDepth 100000
set_option maxHeartbeats 4000000
/-! XFmt: texts filled up on the left; numbers with commas. -/
namespace G57
open PySem PySem.Spec PyProof.Rows L2
open Builtin Builtin.Str Builtin.Int Builtin.Float
/-- commas behind every third digit, from the right: digits and result with the last sign first -/
def cr : Nat → List Nat → List Nat
  | 0, ds => ds
  | k + 1, ds => if ds.length ≤ 3 then ds else ds.take 3 ++ 44 :: cr k (ds.drop 3)
/-- the codes of a number's digits -/
def dg (n : Nat) : List Nat := (Nat.toDigits 10 n).map Char.toNat
def cmL (ds : List Nat) : List Nat := (cr ds.length ds.reverse).reverse
theorem groups_cr (G : Nat → List Nat → Int → List Nat → List Nat) (h0 : ∀ ds r o, G 0 ds r o = o)
    (h1 : ∀ k ds r o, G (k + 1) ds r o = if (ds.drop (min 3 (max (max (ds.length : Int) r) 1).toNat)).isEmpty && decide (r - (min 3 (max (max (ds.length : Int) r) 1).toNat : Nat) ≤ 0) then List.replicate ((min 3 (max (max (ds.length : Int) r) 1).toNat) - ds.length) 48 ++ (ds.take (min 3 (max (max (ds.length : Int) r) 1).toNat)).reverse ++ o
      else G k (ds.drop (min 3 (max (max (ds.length : Int) r) 1).toNat)) (r - (min 3 (max (max (ds.length : Int) r) 1).toNat : Nat) - 1) (44 :: (List.replicate ((min 3 (max (max (ds.length : Int) r) 1).toNat) - ds.length) 48 ++ (ds.take (min 3 (max (max (ds.length : Int) r) 1).toNat)).reverse ++ o))) :
    ∀ (k : Nat) (ds : List Nat) (r : Int) (o : List Nat), 0 < ds.length → ds.length ≤ k → r ≤ 0 → G k ds r o = (cr k ds).reverse ++ o := by
  intro k
  induction k with
  | zero => intro ds r o h1 h2; omega
  | succ k ih =>
    intro ds r o p l r0
    rw [h1]
    by_cases c : ds.length ≤ 3
    · have e : min 3 (max (max (ds.length : Int) r) 1).toNat = ds.length := by omega
      rw [e]
      simp only [List.drop_length, List.isEmpty_nil, Bool.true_and, Nat.sub_self, List.replicate_zero, List.nil_append, List.take_length]
      rw [if_pos (by simp; omega)]
      simp [cr, c]
    · have e : min 3 (max (max (ds.length : Int) r) 1).toNat = 3 := by omega
      rw [e, show 3 - ds.length = 0 by omega]
      have ne : (ds.drop 3).isEmpty = false := by
        cases q : ds.drop 3 with
        | nil =>
          have := congrArg List.length q
          rw [List.length_drop] at this
          simp at this
          omega
        | cons a b => rfl
      rw [ne]
      simp only [Bool.false_and, Bool.false_eq_true, if_false, List.replicate_zero, List.nil_append]
      rw [ih _ _ _ (by rw [List.length_drop]; omega) (by rw [List.length_drop]; omega) (by omega)]
      simp [cr, c]
theorem cr_more : ∀ (k j : Nat) (ds : List Nat), ds.length ≤ k → ds.length ≤ j → cr k ds = cr j ds := by
  intro k
  induction k with
  | zero =>
    intro j ds h1 h2
    have : ds = [] := List.eq_nil_of_length_eq_zero (by omega)
    subst this
    cases j <;> simp [cr]
  | succ k ih =>
    intro j ds h1 h2
    cases j with
    | zero =>
      have : ds = [] := List.eq_nil_of_length_eq_zero (by omega)
      subst this
      simp [cr]
    | succ j =>
      simp only [cr]
      split
      · rfl
      · rw [ih j _ (by rw [List.length_drop]; omega) (by rw [List.length_drop]; omega)]
theorem dg_pos (n : Nat) : 0 < (dg n).length := by
  unfold dg
  rw [List.length_map]
  exact Nat.length_toDigits_pos
theorem field_cm (F : FormatSpec → Bool → List Nat → List Nat → List Nat → Nat → Str) (G : Nat → List Nat → Int → List Nat → List Nat) (ds : List Nat) (p : 0 < ds.length)
    (hF : F { align := 62, grouping := some ',', type := none } false [] ds [] 3 = ⟨(List.replicate ((-1 : Int) - (((0 : Nat) : Int) + ((0 : Nat) : Int) + ((0 : Nat) : Int)) - ((if ds.isEmpty = true then [] else G (ds.length + (0 : Int).toNat + 1) ds.reverse 0 []).length : Int)).toNat 32 ++ [] ++ [] ++ List.replicate 0 32 ++ (if ds.isEmpty = true then [] else G (ds.length + (0 : Int).toNat + 1) ds.reverse 0 []) ++ [] ++ List.replicate 0 32).toArray⟩)
    (h0 : ∀ ds r o, G 0 ds r o = o)
    (h1 : ∀ k ds r o, G (k + 1) ds r o = if (ds.drop (min 3 (max (max (ds.length : Int) r) 1).toNat)).isEmpty && decide (r - (min 3 (max (max (ds.length : Int) r) 1).toNat : Nat) ≤ 0) then List.replicate ((min 3 (max (max (ds.length : Int) r) 1).toNat) - ds.length) 48 ++ (ds.take (min 3 (max (max (ds.length : Int) r) 1).toNat)).reverse ++ o
      else G k (ds.drop (min 3 (max (max (ds.length : Int) r) 1).toNat)) (r - (min 3 (max (max (ds.length : Int) r) 1).toNat : Nat) - 1) (44 :: (List.replicate ((min 3 (max (max (ds.length : Int) r) 1).toNat) - ds.length) 48 ++ (ds.take (min 3 (max (max (ds.length : Int) r) 1).toNat)).reverse ++ o))) :
    (Str.cps (F { align := 62, grouping := some ',', type := none } false [] ds [] 3)).toList = cmL ds := by
  rw [hF]
  have ne : ds.isEmpty = false := by
    cases ds with
    | nil => simp at p
    | cons a b => rfl
  rw [ne]
  simp only [Bool.false_eq_true, if_false]
  rw [groups_cr G h0 h1 _ _ _ _ (by rw [List.length_reverse]; exact p) (by rw [List.length_reverse]; omega) (Int.le_refl _)]
  have e0 : ∀ n : Nat, ((-1 : Int) - (((0 : Nat) : Int) + ((0 : Nat) : Int) + ((0 : Nat) : Int)) - (n : Int)).toNat = 0 := fun n => by omega
  rw [e0]
  simp only [List.replicate_zero, List.nil_append, List.append_nil]
  unfold cmL
  rw [cr_more (ds.length + (0 : Int).toNat + 1) ds.length _ (by rw [List.length_reverse]; omega) (by rw [List.length_reverse]; omega)]
theorem gives_retStr (y : Str) : Gives (retStr y) (.str y) := .of_eq rfl
theorem gives_int_comma (a : Int) (t u : Tok) (h : a.natAbs.log2 < 1920) (a0 : 0 ≤ a) : ∃ y : Str, Gives («int.__format__» ⟨[.int a t, .str (Str.ofString ",") u], []⟩) (.str y) ∧ y.cps.toList = cmL (dg a.natAbs) := by
  apply Exists.intro
  apply And.intro
  · show Gives (do let r ← overDigitLimit? a; _) _
    rw [PySem.overDigitLimit_small h]
    rw [pure_bind]
    simp only [List.reverse_nil, List.isEmpty_nil, if_true, Option.getD_none, beq_self_eq_true]
    rw [if_neg (by decide)]
    have ht : (if ((cpsOfBytes 0 0 []).head? == some 0) = true then none else (cpsOfBytes 0 0 []).head?) = (none : Option Nat) := rfl
    have hb : ((Str.ofString ",").cps.back? == some 0) = false := by decide +kernel
    rw [ht, hb, decide_eq_false (show ¬ a < 0 by omega)]
    have hm : (List.map (fun c : Char => (if ((none : Option Nat).getD (if false = true then 0 else 100) == 88) = true then c.toUpper else c).toNat) (Nat.toDigits 10 a.natAbs)) = dg a.natAbs := rfl
    rw [hm]
    rw [if_neg Bool.false_ne_true]
    exact gives_retStr _
  · exact field_cm _ _ _ (dg_pos _) rfl (fun _ _ _ => rfl) (fun _ _ _ _ => rfl)
theorem parse26 (name : String) : parseFormatSpec (Str.ofString ">26").cps.toList name 60 = .ok { align := 62, width := some 26 } := by
  rfl
theorem parse14 (name : String) : parseFormatSpec (Str.ofString ">14").cps.toList name 60 = .ok { align := 62, width := some 14 } := by
  rfl
theorem field_wide (x : Str) (w : Nat) (h : w ≤ x.length) (name : String) : strField x { align := 62, width := some w } name = .ok none := by
  unfold strField
  simp [h]
  rfl
theorem field_small (x : Str) (w : Nat) (h : x.length < w) (name : String) : strField x { align := 62, width := some w } name = .ok (some (padded (strSub x 0 x.length) (w - (strSub x 0 x.length).length) 0 32)) := by
  unfold strField
  have h2 : ¬ w ≤ x.length := by omega
  simp [h2]
  rfl
theorem ok_bind {ε α β : Type} (a : α) (f : α → Except ε β) : (Except.ok a >>= f) = f a := rfl
/-- filled up with spaces on the left -/
def padL (w : Nat) (x : Str) : Str := padded (strSub x 0 x.length) (w - (strSub x 0 x.length).length) 0 32
theorem wide26 (x : Str) (t u : Tok) (h : 26 ≤ x.length) : Gives («str.__format__» ⟨[.str x t, .str (Str.ofString ">26") u], []⟩) (.val (.str x t)) := by
  have h1 : strOneArg "__format__" ⟨[.str x t, .str (Str.ofString ">26") u], []⟩ = pure (.str x t, x, .str (Str.ofString ">26") u) := rfl
  have h2 : asStr? (Value.str (Str.ofString ">26") u) = pure (some (Str.ofString ">26")) := rfl
  have h3 : typeNameOfCut 200 (Value.str x t) = pure "str" := rfl
  have c1 : ((Str.ofString ">26").length == 0) = false := by decide +kernel
  have c2 : (((List.drop 1 (Str.ofString ">26").cps.toList).any fun x => decide (x ≥ 128)) || decide ((Str.ofString ">26").cps.getD 0 0 ≥ 128) && !([60, 62, 61, 94] : List Nat).contains ((Str.ofString ">26").cps.getD 1 0)) = false := by decide +kernel
  have c3 : ((Str.ofString ">26").cps.back? == some 0) = false := by decide +kernel
  have c4 : tooLong 26 = false := by decide +kernel
  unfold «str.__format__»
  simp only [h1, h2, h3, pure_bind, c1, c2, c3, Bool.false_eq_true, if_false, parse26, ok_bind, Bool.and_false, Option.getD_some, c4, field_wide x 26 h]
  exact .rule (.of_eq rfl)
theorem small26 (x : Str) (t u : Tok) (h : x.length < 26) : Gives («str.__format__» ⟨[.str x t, .str (Str.ofString ">26") u], []⟩) (.str (padL 26 x)) := by
  have h1 : strOneArg "__format__" ⟨[.str x t, .str (Str.ofString ">26") u], []⟩ = pure (.str x t, x, .str (Str.ofString ">26") u) := rfl
  have h2 : asStr? (Value.str (Str.ofString ">26") u) = pure (some (Str.ofString ">26")) := rfl
  have h3 : typeNameOfCut 200 (Value.str x t) = pure "str" := rfl
  have c1 : ((Str.ofString ">26").length == 0) = false := by decide +kernel
  have c2 : (((List.drop 1 (Str.ofString ">26").cps.toList).any fun x => decide (x ≥ 128)) || decide ((Str.ofString ">26").cps.getD 0 0 ≥ 128) && !([60, 62, 61, 94] : List Nat).contains ((Str.ofString ">26").cps.getD 1 0)) = false := by decide +kernel
  have c3 : ((Str.ofString ">26").cps.back? == some 0) = false := by decide +kernel
  have c4 : tooLong 26 = false := by decide +kernel
  unfold «str.__format__»
  simp only [h1, h2, h3, pure_bind, c1, c2, c3, Bool.false_eq_true, if_false, parse26, ok_bind, Bool.and_false, Option.getD_some, c4, field_small x 26 h]
  exact gives_retStr _
theorem wide14 (x : Str) (t u : Tok) (h : 14 ≤ x.length) : Gives («str.__format__» ⟨[.str x t, .str (Str.ofString ">14") u], []⟩) (.val (.str x t)) := by
  have h1 : strOneArg "__format__" ⟨[.str x t, .str (Str.ofString ">14") u], []⟩ = pure (.str x t, x, .str (Str.ofString ">14") u) := rfl
  have h2 : asStr? (Value.str (Str.ofString ">14") u) = pure (some (Str.ofString ">14")) := rfl
  have h3 : typeNameOfCut 200 (Value.str x t) = pure "str" := rfl
  have c1 : ((Str.ofString ">14").length == 0) = false := by decide +kernel
  have c2 : (((List.drop 1 (Str.ofString ">14").cps.toList).any fun x => decide (x ≥ 128)) || decide ((Str.ofString ">14").cps.getD 0 0 ≥ 128) && !([60, 62, 61, 94] : List Nat).contains ((Str.ofString ">14").cps.getD 1 0)) = false := by decide +kernel
  have c3 : ((Str.ofString ">14").cps.back? == some 0) = false := by decide +kernel
  have c4 : tooLong 14 = false := by decide +kernel
  unfold «str.__format__»
  simp only [h1, h2, h3, pure_bind, c1, c2, c3, Bool.false_eq_true, if_false, parse14, ok_bind, Bool.and_false, Option.getD_some, c4, field_wide x 14 h]
  exact .rule (.of_eq rfl)
theorem small14 (x : Str) (t u : Tok) (h : x.length < 14) : Gives («str.__format__» ⟨[.str x t, .str (Str.ofString ">14") u], []⟩) (.str (padL 14 x)) := by
  have h1 : strOneArg "__format__" ⟨[.str x t, .str (Str.ofString ">14") u], []⟩ = pure (.str x t, x, .str (Str.ofString ">14") u) := rfl
  have h2 : asStr? (Value.str (Str.ofString ">14") u) = pure (some (Str.ofString ">14")) := rfl
  have h3 : typeNameOfCut 200 (Value.str x t) = pure "str" := rfl
  have c1 : ((Str.ofString ">14").length == 0) = false := by decide +kernel
  have c2 : (((List.drop 1 (Str.ofString ">14").cps.toList).any fun x => decide (x ≥ 128)) || decide ((Str.ofString ">14").cps.getD 0 0 ≥ 128) && !([60, 62, 61, 94] : List Nat).contains ((Str.ofString ">14").cps.getD 1 0)) = false := by decide +kernel
  have c3 : ((Str.ofString ">14").cps.back? == some 0) = false := by decide +kernel
  have c4 : tooLong 14 = false := by decide +kernel
  unfold «str.__format__»
  simp only [h1, h2, h3, pure_bind, c1, c2, c3, Bool.false_eq_true, if_false, parse14, ok_bind, Bool.and_false, Option.getD_some, c4, field_small x 14 h]
  exact gives_retStr _
section
variable {prog : Program} {w : World} {A : Around} {E : Value → Shared → Prop} {s : Shared}
theorem field_same {x sp : Str} {t : Tok} {Q : Value → Shared → Prop} (ne : (sp.length == 0) = false) (g : ∀ u, Gives («str.__format__» ⟨[.str x t, .str sp u], []⟩) (.val (.str x t))) (sz : sp.length ≤ sizeLine)
    (q : Q (.str x t) { s with toks := s.toks + 1 }) : wpAny (model prog w) A (formatField (.str x t) sp) Q E s := by
  have e : formatField (.str x t) sp = holding [.str x t] (pyFormat (.str x t) sp) := by
    show (if (sp.length == 0) = true then _ else _) = _
    rw [if_neg (by rw [ne]; exact Bool.false_ne_true)]
  rw [e]
  apply wpAny_holding
  unfold pyFormat
  apply wpAny_bind
  refine wpAny_mkStr ?_ sz
  apply wpAny_bind
  refine wpAny_callSpecial?_slot (name := Str.ofString "__format__") (typeIs_str _ _ _) F.slot_str_format ?_
  refine call_gives F.slot_str_format (typeIs_str _ _ _) F.entry_str_format (F.args_str_format_2 _ _) (g _) ?_
  show wpAny _ _ (do if ← isInstance (.str x t) (.type "str") then return (.str x t) else _) Q E _
  apply wpAny_bind
  exact wpAny_isInstance (typeIs_str _ _ _) isSubtype_str_str (wpAny_pure q)
end
/-- what stands in a field of a width -/
def fillL (w : Nat) (y : Str) : Str := if y.length < w then padL w y else y
theorem padL_len (w : Nat) (y : Str) : (padL w y).length ≤ w + y.length := by
  unfold padL padded strSub Str.length
  simp
section
variable {X : Cx} {e spec : Expr} {te : TE} {pos : Pos}
def tFmtW (w : Nat) (te : TE) : TE := fun σ H Q => te σ H fun x H1 => ∃ y : Str, x = .str y ∧ y.length ≤ 1000000 ∧ Q (.str (fillL w y)) H1
theorem pe_fmt26 (he : PE X e te) (hs : PE X spec (tC (.str (Str.ofString ">26")))) : PE X (.FormattedValue e (-1) (some spec) pos) (tFmtW 26 te) := by
  refine ⟨fun pins s σ H Q I h => wpAny_FormattedValue_spec (thn (he.run pins s σ H _ I h) fun v s1 hv => ?_)⟩
  obtain ⟨x, H1, I1, r1, y, rfl, hz, q⟩ := hv
  obtain ⟨t, rfl⟩ := r1
  refine thn (hs.run pins s1 σ H1 (fun z H2 => z = .str (Str.ofString ">26") ∧ H2 = H1) I1 ⟨rfl, rfl⟩) fun r s2 hr => ?_
  obtain ⟨z, H2, I2, r2, rfl, rfl⟩ := hr
  obtain ⟨t2, rfl⟩ := r2
  refine ⟨_, t2, rfl, ?_⟩
  have lim : (1000026 : Nat) ≤ sizeLine := Nat.le_of_ble_eq_true rfl
  unfold fillL at q
  by_cases c : y.length < 26
  · rw [if_pos c] at q
    exact wpAny_formatField_spec (by decide +kernel) (fun s' => typeIs_str s' _ _) F.slot_str_format F.entry_str_format F.args_str_format_2 (fun u => small26 y t u c) ⟨.str (padL 26 y), _, I2.tok _, ⟨_, rfl⟩, q⟩ (Nat.le_of_ble_eq_true rfl) (Nat.le_trans (padL_len 26 y) (by omega))
  · rw [if_neg c] at q
    exact field_same (by decide +kernel) (fun u => wide26 y t u (by omega)) (Nat.le_of_ble_eq_true rfl) ⟨.str y, _, I2.tok _, ⟨_, rfl⟩, q⟩
theorem pe_fmt14 (he : PE X e te) (hs : PE X spec (tC (.str (Str.ofString ">14")))) : PE X (.FormattedValue e (-1) (some spec) pos) (tFmtW 14 te) := by
  refine ⟨fun pins s σ H Q I h => wpAny_FormattedValue_spec (thn (he.run pins s σ H _ I h) fun v s1 hv => ?_)⟩
  obtain ⟨x, H1, I1, r1, y, rfl, hz, q⟩ := hv
  obtain ⟨t, rfl⟩ := r1
  refine thn (hs.run pins s1 σ H1 (fun z H2 => z = .str (Str.ofString ">14") ∧ H2 = H1) I1 ⟨rfl, rfl⟩) fun r s2 hr => ?_
  obtain ⟨z, H2, I2, r2, rfl, rfl⟩ := hr
  obtain ⟨t2, rfl⟩ := r2
  refine ⟨_, t2, rfl, ?_⟩
  have lim : (1000026 : Nat) ≤ sizeLine := Nat.le_of_ble_eq_true rfl
  unfold fillL at q
  by_cases c : y.length < 14
  · rw [if_pos c] at q
    exact wpAny_formatField_spec (by decide +kernel) (fun s' => typeIs_str s' _ _) F.slot_str_format F.entry_str_format F.args_str_format_2 (fun u => small14 y t u c) ⟨.str (padL 14 y), _, I2.tok _, ⟨_, rfl⟩, q⟩ (Nat.le_of_ble_eq_true rfl) (Nat.le_trans (padL_len 14 y) (by omega))
  · rw [if_neg c] at q
    exact field_same (by decide +kernel) (fun u => wide14 y t u (by omega)) (Nat.le_of_ble_eq_true rfl) ⟨.str y, _, I2.tok _, ⟨_, rfl⟩, q⟩
/-- a number that is not negative, with commas -/
def cmS (a : Int) : Str := ⟨(cmL (dg a.natAbs)).toArray⟩
theorem cr_len : ∀ (k : Nat) (ds : List Nat), (cr k ds).length ≤ 2 * ds.length
  | 0, ds => by simp [cr]; omega
  | k + 1, ds => by
    simp only [cr]
    split
    · omega
    · have := cr_len k (ds.drop 3)
      rw [List.length_append, List.length_cons, List.length_take]
      rw [List.length_drop] at this
      omega
theorem cmS_len (a : Int) : (cmS a).length ≤ 2 * (dg a.natAbs).length := by
  have := cr_len (dg a.natAbs).length (dg a.natAbs).reverse
  rw [List.length_reverse] at this
  unfold cmS cmL Str.length
  simp
  exact this
def tFmtC (te : TE) : TE := fun σ H Q => te σ H fun x H1 => ∃ i : Int, x = .int i ∧ 0 ≤ i ∧ i.natAbs.log2 < 1920 ∧ (dg i.natAbs).length ≤ 100000 ∧ Q (.str (cmS i)) H1
theorem pe_fmtC (he : PE X e te) (hs : PE X spec (tC (.str (Str.ofString ",")))) : PE X (.FormattedValue e (-1) (some spec) pos) (tFmtC te) := by
  refine ⟨fun pins s σ H Q I h => wpAny_FormattedValue_spec (thn (he.run pins s σ H _ I h) fun v s1 hv => ?_)⟩
  obtain ⟨x, H1, I1, r1, i, rfl, i0, il, dl, q⟩ := hv
  obtain ⟨t, rfl⟩ := r1
  refine thn (hs.run pins s1 σ H1 (fun z H2 => z = .str (Str.ofString ",") ∧ H2 = H1) I1 ⟨rfl, rfl⟩) fun r s2 hr => ?_
  obtain ⟨z, H2, I2, r2, rfl, rfl⟩ := hr
  obtain ⟨t2, rfl⟩ := r2
  refine ⟨_, t2, rfl, ?_⟩
  have lim : (1000026 : Nat) ≤ sizeLine := Nat.le_of_ble_eq_true rfl
  have g : ∀ u, Gives («int.__format__» ⟨[.int i t, .str (Str.ofString ",") u], []⟩) (.str (cmS i)) := fun u => by
    obtain ⟨y, g, e⟩ := gives_int_comma i t u il i0
    have : y = cmS i := by
      unfold cmS
      rw [← e]
    rw [← this]
    exact g
  exact wpAny_formatField_spec (by decide +kernel) (fun s' => typeIs_int s' _ _) F.slot_int_format F.entry_int_format F.args_int_format_2 g ⟨.str (cmS i), _, I2.tok _, ⟨_, rfl⟩, q⟩ (Nat.le_of_ble_eq_true rfl) (Nat.le_trans (cmS_len i) (by omega))
end
end G57
end
section
set_option maxRecDepth 100000
set_option maxHeartbeats 4000000
/-! XTxt: texts: x * n, None in a list of ints and Nones, lstrip, replace as the first word of a def, several except clauses of which some have a name. -/
namespace G57
open PySem PySem.Spec PyProof.Rows L2
section
variable {X : Cx}
def rMulS : R2 := fun x y H Q => ∃ (z : Str) (n : Int), x = .str z ∧ y = .int n ∧ z.length = 1 ∧ n ≤ 100 ∧ -100 ≤ n ∧ Q (.str (Txt.mul z n)) H
theorem mulOk_small {z : Str} {n : Int} (hz : z.length = 1) (h1 : n ≤ 100) (h0 : -100 ≤ n) : MulOk z n := by
  refine ⟨?_, fun a b => ?_, fun a b => ?_⟩
  · rw [decide_eq_false (by omega), decide_eq_false (by omega)]; rfl
  · rw [hz]
    have : (1 : Int) ≤ (2 ^ 63 - 1) / n := by
      refine Int.le_ediv_of_mul_le (by omega) ?_
      omega
    show ¬ ((1 : Nat) : Int) > (2 ^ 63 - 1) / n
    omega
  · rw [hz, Nat.one_mul]
    have : n.toNat ≤ 100 := by omega
    unfold Builtin.Str.tooLong
    exact decide_eq_false (by have : (100 : Nat) < sizeLine := Nat.le_of_ble_eq_true rfl; omega)
theorem op_mulS : OpR X (binaryOp .Mult) rMulS := by
  intro pins s σ H x y v u Q I rx ry h
  obtain ⟨z, n, rfl, rfl, hz, h1, h0, q⟩ := h
  obtain ⟨t, rfl⟩ := rx
  obtain ⟨t', rfl⟩ := ry
  exact SB.mul (mulOk_small hz h1 h0) fun t' k => ⟨.str (Txt.mul z n), H, I.tok k, ⟨t', rfl⟩, q⟩
theorem spaces_tl (n : Int) : (Txt.mul (Str.ofString " ") n).cps.toList = List.replicate n.toNat 32 := by
  unfold Txt.mul
  by_cases h : n < 1
  · rw [if_pos h, show n.toNat = 0 by omega]; rfl
  · rw [if_neg h]
    by_cases e : n = 1
    · subst e; rfl
    · have : (n == 1 || (Str.ofString " ").length == 0) = false := by
        rw [beq_eq_false_iff_ne.mpr e]; decide +kernel
      rw [this]
      simp only [Bool.false_eq_true, if_false]
      have hs : (Str.ofString " ").cps = #[32] := by decide +kernel
      rw [hs]
      have key : ∀ (k : Nat) (acc : Array Nat), ((List.replicate k #[32]).foldl (· ++ ·) acc).toList = acc.toList ++ List.replicate k 32 := by
        intro k
        induction k with
        | zero => intro acc; simp
        | succ k ih => intro acc; rw [List.replicate_succ, List.foldl_cons, ih, List.replicate_succ]; simp
      rw [key]; rfl
/-- None in a list of plain values -/
def rNoneInF (K : PySem.W.Frag) : R2 := fun x y H Q => ∃ p xs, x = .non ∧ y = .ref p ∧ SqL K H p xs ∧ (∀ z ∈ xs, z = .non ∨ ∃ i, z = .int i) ∧ Q (.bl (xs.any isNon)) H
theorem isNone_ni {z : V} {u : Value} (r : RelV z u) (f : z = .non ∨ ∃ i, z = .int i) : PySem.Numpy.isNone u = isNon z := by
  rcases f with rfl | ⟨i, rfl⟩
  · cases r; rfl
  · obtain ⟨t, rfl⟩ := r; rfl
theorem any_ni : ∀ {xs : List V} {us : List Value}, Vals xs us → (∀ z ∈ xs, z = .non ∨ ∃ i, z = .int i) → us.any PySem.Numpy.isNone = xs.any isNon
  | _, _, .nil, _ => rfl
  | y :: xs, u :: us, .cons r t, f => by
    rw [List.any_cons, List.any_cons, isNone_ni r (f y (List.mem_cons_self ..)), any_ni t fun z hz => f z (List.mem_cons_of_mem _ hz)]
theorem mem_ni {A : Around} {s : Shared} : ∀ {xs : List V} {us : List Value}, Vals xs us → (∀ z ∈ xs, z = .non ∨ ∃ i, z = .int i) → ∀ u ∈ us, SeqAt.EqAt A s u .none (PySem.Numpy.isNone u)
  | _, _, .nil, _ => fun u hu' => by cases hu'
  | y :: xs, u :: us, .cons r t, f => fun u' hu' => by
    rcases List.mem_cons.mp hu' with e | hu'
    · subst e
      rcases f y (List.mem_cons_self ..) with rfl | ⟨i, rfl⟩
      · cases r; exact SeqAt.EqAt.same _
      · have k := L2.eqAt_V (A := A) (s := s) (y := .int i) (x := .non) r (show RelV V.non Value.none from rfl) rfl rfl
        obtain ⟨t', rfl⟩ := r
        exact k
    · exact mem_ni t (fun z hz => f z (List.mem_cons_of_mem _ hz)) u' hu'
theorem op_noneInF : OpR X (compareOp .In) (rNoneInF X.K) := by
  intro pins s σ H x y v u Q I rx ry h
  obtain ⟨p, xs, rfl, rfl, hq, f, q⟩ := h
  cases rx
  cases ry
  obtain ⟨its, rv, hl, _⟩ := I.list hq
  refine SeqAt.in_listAt PySem.Numpy.isNone hl.isList (fun z hz => mem_ni rv f z (by simpa using hz)) ⟨.bl _, H, I, rfl, ?_⟩
  rw [show its.toArray.any PySem.Numpy.isNone = its.any PySem.Numpy.isNone by simp, any_ni rv f]
  exact q
theorem pe_lstrip {o e : Expr} {to te : TE} {apos pos : Pos} (ho : PE X o to) (he : PE X e te) (hs : starEach [e] X.env = [(false, eval e X.env)] := by rfl) (hbase : attributeBase o "lstrip" X.env (eval o X.env) = eval o X.env := by rfl) (hline : (apos.endLine == pos.line) = true := by rfl) :
    PE X (.Call (.Attribute o "lstrip" apos) [e] [] pos) (tM1 (fun x xs H Q => ∃ a b, x = .str a ∧ xs = [.str b] ∧ a.length ≤ sizeLine ∧ Q (.str (Txt.lstripChars a b)) H) to te) :=
  pe_m1 F.slot_str_lstrip F.type_str_lstrip mt_lstripChars ho he hs hbase hline
/-- x = e, a token out -/
theorem pst_set {i : Nat} {x : Str} {e : Expr} {te : TE} {pos' pos : Pos} (hN : X.N.Nodup) (hi : X.N[i]? = some x) (hx : Loc X.env.scope x) (he : PET X e te) (hs : swapsWith e (some (.Name x pos')) pos.line X.env = pure false := by rfl)
    (hf : X.fn x = true ∨ X.env.scope.names.lookup x = some .local := by first | exact .inl rfl | exact .inr rfl | assumption) : PST X (.Assign [.Name x pos'] e pos) (tAsg te (gName i)) := by
  intro pins s σ H D h0 I h
  refine wpAny_Assign_Name (thn (he pins s σ H _ h0 I h) fun v s1 ⟨y, H1, I1, r1, q1⟩ => ?_) hs
  exact store_ok I1 hN hi hx r1 (fun s2 I2 => ⟨_, H1, I2, q1⟩) hf
end
end G57
namespace G57
open PySem PySem.Spec PyProof.Rows L2
section
variable {P : Program} {w : World} {K : PySem.W.Frag} {mg : Str → Option Value} {base : Heap}
/-- a def of the module with a parameter and no cells: a token is out when its body begins -/
theorem calT_of {d : DefA} {x : Str} {N ps : List Str} {k : Nat} {sp : Sp} (F : ∃ fd, d.Fn K fd) (hp : d.path = pG x) (hd : d.dfl = []) (hm : mg x = some (.ref (He.ga K x))) (S : FnScope N ps d.scope)
    (b : BindA d.name d.qual d.params d.body d.scope ps) (hnc : ∀ y ∈ d.scope.names, y.2 ≠ .cell) (hps : 1 ≤ ps.length) (len : ∀ vs H Q E, sp vs H Q E → vs.length = ps.length)
    (hb : ∀ (cdv : Value) (A : Around) (outer : List Env) (s : Shared) (H : Hp) (vs : List V) (Q : VK) (E : XK), Room k (A.deeper (envOfC d.qual d.scope s.heap.objs.size (He.ga K x) cdv)) → sp vs H Q E →
      ∃ t, PSsT (cxOf CX0 P w K mg base N d.qual d.scope (He.ga K x) cdv A outer s H E) d.body t ∧ t { nx := fun _ H' => Q .non H', rt := Q } (start N vs) H) : C8.Cal P w K mg base (k + 1) x sp [] := by
  obtain ⟨fd, F⟩ := F
  have F' : FunD K d.name d.qual d.params d.body d.scope [] (d.kws K) (He.ga K x) fd := by
    have q : FunD K d.name d.qual d.params d.body d.scope (d.dvs K) (d.kws K) (d.path K) fd := F
    unfold DefA.dvs at q
    rw [hd, hp] at q
    exact q
  obtain ⟨oc, od, kV, doc, pm, an, cdv, ct, osl, rfl, lk, hcd⟩ := fun_of F'
  exact ⟨_, _, ps, [], fn_ofT lk hcd S hnc hps len fun A outer s H vs Q E hr hsp => hb cdv A outer s H vs Q E hr hsp, hm, F'.kp, .all (b kV doc pm an cdv ct), .nil⟩
end
end G57
namespace G57
open PySem PySem.Spec PyProof.Rows L2
/-! ### a target in two ways; the rest of the new readings, folded -/
def gTwo (t1 t2 : TG) : TG := fun v σ H Q => t1 v σ H Q ∨ t2 v σ H Q
theorem pg_two {X : Cx} {e : Expr} {t1 t2 : TG} (h1 : PG X e t1) (h2 : PG X e t2) : PG X e (gTwo t1 t2) :=
  ⟨fun pins s σ H v u Q I r h => h.elim (h1.run pins s σ H v u Q I r) (h2.run pins s σ H v u Q I r)⟩
theorem r_gtwo1 {t1 t2 : TG} {v : V} {σ : L2.St} {H : Hp} {Q : L2.St → Hp → Prop} (q : t1 v σ H Q) : gTwo t1 t2 v σ H Q := .inl q
theorem r_gtwo2 {t1 t2 : TG} {v : V} {σ : L2.St} {H : Hp} {Q : L2.St → Hp → Prop} (q : t2 v σ H Q) : gTwo t1 t2 v σ H Q := .inr q
section
variable {σ : L2.St} {H : Hp} {Q : VK} {te to ta tb : TE}
def FmtW (w : Nat) (Q : VK) (x : V) (H1 : Hp) : Prop := ∃ y : Str, x = .str y ∧ y.length ≤ 1000000 ∧ Q (.str (fillL w y)) H1
theorem r_fmtW {w : Nat} (q : te σ H (FmtW w Q)) : tFmtW w te σ H Q := q
theorem r_fmtWR {w : Nat} {y : Str} (h : y.length ≤ 1000000) (q : Q (.str (fillL w y)) H) : FmtW w Q (.str y) H := ⟨y, rfl, h, q⟩
def FmtC (Q : VK) (x : V) (H1 : Hp) : Prop := ∃ i : Int, x = .int i ∧ 0 ≤ i ∧ i.natAbs.log2 < 1920 ∧ (dg i.natAbs).length ≤ 100000 ∧ Q (.str (cmS i)) H1
theorem r_fmtC (q : te σ H (FmtC Q)) : tFmtC te σ H Q := q
theorem r_fmtCR {i : Int} (h0 : 0 ≤ i) (h : i.natAbs.log2 < 1920) (h2 : (dg i.natAbs).length ≤ 100000) (q : Q (.str (cmS i)) H) : FmtC Q (.int i) H := ⟨i, rfl, h0, h, h2, q⟩
def JsR (ts : List TE) (acc : Str) (σ : L2.St) (Q : Str → Hp → Prop) (x : V) (H1 : Hp) : Prop := ∃ y : Str, x = .str y ∧ (acc ++ y).length ≤ sizeLine ∧ tJs ts (acc ++ y) σ H1 Q
theorem r_js {t : TE} {ts : List TE} {acc : Str} {Q : Str → Hp → Prop} (q : t σ H (JsR ts acc σ Q)) : tJs (t :: ts) acc σ H Q := q
theorem r_jsR {ts : List TE} {acc y : Str} {Q : Str → Hp → Prop} (h : (acc ++ y).length ≤ sizeLine) (q : tJs ts (acc ++ y) σ H Q) : JsR ts acc σ Q (.str y) H := ⟨y, rfl, h, q⟩
theorem r_jsN {acc : Str} {Q : Str → Hp → Prop} (q : Q acc H) : tJs [] acc σ H Q := q
/-- x ++ y of texts -/
theorem r_addS {i j : Str} (h : i.length + j.length ≤ sizeLine) (q : Q (.str (i ++ j)) H) : (fun x y H Q => ∃ i j, x = .str i ∧ y = .str j ∧ i.length + j.length ≤ sizeLine ∧ Q (.str (i ++ j)) H : R2) (.str i) (.str j) H Q := ⟨i, j, rfl, rfl, h, q⟩
theorem r_mulS {z : Str} {n : Int} (hz : z.length = 1) (h1 : n ≤ 100) (h0 : -100 ≤ n) (q : Q (.str (Txt.mul z n)) H) : rMulS (.str z) (.int n) H Q := ⟨z, n, rfl, rfl, hz, h1, h0, q⟩
end
end G57
namespace G57
open PySem PySem.Spec PyProof.Rows L2
section
variable {X : Cx} {σ : L2.St} {H : Hp} {Q : VK} {te to ta tb : TE} {K : PySem.W.Frag}
def rLenS : List V → Hp → VK → Prop := fun xs H Q => ∃ z : Str, xs = [.str z] ∧ z.length ≤ sizeLine ∧ Q (.int z.length) H
theorem cq_lenS : CallR X (.builtin "len") rLenS := call_len_str
theorem r_lenS {z : Str} (h : z.length ≤ sizeLine) (q : Q (.int z.length) H) : rLenS [.str z] H Q := ⟨z, rfl, h, q⟩
theorem r_slS {z : Str} {lo hi : Option Int} (h : z.length ≤ sizeLine) (q : Q (.str (cutS z lo hi)) H) : rSlS (.str z) lo hi H Q := ⟨z, rfl, h, q⟩
/-- a method of a text, its argument still to come -/
def M1R (r : V → List V → Hp → VK → Prop) (te : TE) (σ : L2.St) (Q : VK) (x : V) (H1 : Hp) : Prop := (∃ a, x = .str a) ∧ te σ H1 fun y H2 => r x [y] H2 Q
theorem r_m1 {r : V → List V → Hp → VK → Prop} (q : to σ H (M1R r te σ Q)) : tM1 r to te σ H Q := q
theorem r_m1R {r : V → List V → Hp → VK → Prop} {a : Str} (q : te σ H fun y H2 => r (.str a) [y] H2 Q) : M1R r te σ Q (.str a) H := ⟨⟨a, rfl⟩, q⟩
theorem r_joinR {a : Str} {p : Addr} {ys : List Str} (h : SqL K H p (ys.map V.str)) (hz : (ys.map (·.length)).sum + ys.length * a.length ≤ 16777216) (q : Q (.str (Txt.join a ys)) H) :
    ∃ a' p', ∃ ys' : List Str, V.str a = .str a' ∧ [V.ref p] = [.ref p'] ∧ (SqL K H p' (ys'.map V.str) ∨ SqT K H p' (ys'.map V.str)) ∧ (ys'.map (·.length)).sum + ys'.length * a'.length ≤ 16777216 ∧ Q (.str (Txt.join a' ys')) H := ⟨a, p, ys, rfl, rfl, .inl h, hz, q⟩
end
end G57
namespace G57
open PySem PySem.Spec PyProof.Rows L2
/-! ### named relations -/
section
variable {X : Cx} {σ : L2.St} {H : Hp} {Q : VK} {to : TE}
def rInSg : R2 := fun x y H Q => ∃ (c : Nat) (z : Str), x = .str ⟨#[c]⟩ ∧ y = .str z ∧ Q (.bl (decide (c ∈ z.cps.toList))) H
theorem op_inSg : OpR X (compareOp .In) rInSg := op_in_sign
theorem r_inSg {c : Nat} {z : Str} (q : Q (.bl (decide (c ∈ z.cps.toList))) H) : rInSg (.str ⟨#[c]⟩) (.str z) H Q := ⟨c, z, rfl, rfl, q⟩
def rLeS : R2 := fun x y H Q => ∃ i j, x = .str i ∧ y = .str j ∧ Q (.bl (!decide (j.cps.toList < i.cps.toList))) H
theorem op_leS : OpR X (compareOp .LtE) rLeS := op_le_str
theorem r_leS {i j : Str} (q : Q (.bl (!decide (j.cps.toList < i.cps.toList))) H) : rLeS (.str i) (.str j) H Q := ⟨i, j, rfl, rfl, q⟩
def rAddS : R2 := fun x y H Q => ∃ i j, x = .str i ∧ y = .str j ∧ i.length + j.length ≤ sizeLine ∧ Q (.str (i ++ j)) H
theorem op_addS : OpR X (binaryOp .Add) rAddS := op_add_str
theorem r_addS2 {i j : Str} (h : i.length + j.length ≤ sizeLine) (q : Q (.str (i ++ j)) H) : rAddS (.str i) (.str j) H Q := ⟨i, j, rfl, rfl, h, q⟩
def rIntS : List V → Hp → VK → Prop := fun xs H Q => ∃ a n, xs = [.str a] ∧ PySem.intText? a = some n ∧ a.length ≤ 640 ∧ Q (.int n) H
theorem cq_intS : CallR X (.type "int") rIntS := call_int_str
theorem r_intS {a : Str} {n : Int} (h : PySem.intText? a = some n) (l : a.length ≤ 640) (q : Q (.int n) H) : rIntS [.str a] H Q := ⟨a, n, rfl, h, l, q⟩
def rStrI : List V → Hp → VK → Prop := fun xs H Q => ∃ i, xs = [.int i] ∧ i.natAbs.log2 < 1920 ∧ Q (.str (toString i)) H
theorem cq_strI : CallR X (.type "str") rStrI := call_str_int
def ReplR (y z : Str) (Q : VK) (v : V) (H1 : Hp) : Prop := ∃ x, v = .str x ∧ x.length + (x.length + 1) * z.length ≤ 16777216 ∧ Q (.str (Txt.replace x y z)) H1
theorem r_repl {y z : Str} (q : to σ H (ReplR y z Q)) : CwR.tReplC to y z σ H Q := q
theorem r_replR {x y z : Str} (h : x.length + (x.length + 1) * z.length ≤ 16777216) (q : Q (.str (Txt.replace x y z)) H) : ReplR y z Q (.str x) H := ⟨x, rfl, h, q⟩
def ItSR (R : It → Hp → Prop) (v : V) (H1 : Hp) : Prop := ∃ x, v = .str x ∧ R (Its x) H1
theorem r_iS {R : It → Hp → Prop} (q : to σ H (ItSR R)) : iStr to σ H R := q
theorem r_iSR {x : Str} {R : It → Hp → Prop} (q : R (Its x) H) : ItSR R (.str x) H := ⟨x, rfl, q⟩
end
end G57
namespace G57
open PySem PySem.Spec PyProof.Rows L2
section
variable {X : Cx} {H : Hp} {Q : VK} {K : PySem.W.Frag} {o e : Expr} {to te : TE}
def rJoinN (K : PySem.W.Frag) : V → List V → Hp → VK → Prop := fun x xs H Q => ∃ a p, ∃ ys : List Str, x = .str a ∧ xs = [.ref p] ∧ (SqL K H p (ys.map V.str) ∨ SqT K H p (ys.map V.str)) ∧ (ys.map (·.length)).sum + ys.length * a.length ≤ 16777216 ∧ Q (.str (Txt.join a ys)) H
theorem pe_joinN {apos pos : Pos} (ho : PE X o to) (he : PE X e te) (hs : starEach [e] X.env = [(false, eval e X.env)] := by rfl) (hbase : attributeBase o "join" X.env (eval o X.env) = eval o X.env := by rfl) (hline : (apos.endLine == pos.line) = true := by rfl) :
    PE X (.Call (.Attribute o "join" apos) [e] [] pos) (tM1 (rJoinN X.K) to te) := pe_join ho he hs hbase hline
theorem r_joinN {a : Str} {p : Addr} {ys : List Str} (h : SqL K H p (ys.map V.str)) (hz : (ys.map (·.length)).sum + ys.length * a.length ≤ 16777216) (q : Q (.str (Txt.join a ys)) H) : rJoinN K (.str a) [.ref p] H Q := ⟨a, p, ys, rfl, rfl, .inl h, hz, q⟩
def rSplitN : V → List V → Hp → VK → Prop := fun x xs H Q => ∃ a b, x = .str a ∧ xs = [.str b] ∧ (b.length == 0) = false ∧ a.length + 2 ≤ sizeLine ∧ rNewStrs (Txt.split a b) H Q
theorem pe_splitN {apos pos : Pos} (ho : PE X o to) (he : PE X e te) (hs : starEach [e] X.env = [(false, eval e X.env)] := by rfl) (hbase : attributeBase o "split" X.env (eval o X.env) = eval o X.env := by rfl) (hline : (apos.endLine == pos.line) = true := by rfl) :
    PE X (.Call (.Attribute o "split" apos) [e] [] pos) (tM1 rSplitN to te) := pe_split ho he hs hbase hline
theorem r_splitN {a b : Str} (hb : (b.length == 0) = false) (ha : a.length + 2 ≤ sizeLine) (q : ∀ p, H p = none → Q (.ref p) (upd H p (.lst ((Txt.split a b).map V.str)))) : rSplitN (.str a) [.str b] H Q := ⟨a, b, rfl, rfl, hb, ha, q⟩
def rLstripN : V → List V → Hp → VK → Prop := fun x xs H Q => ∃ a b, x = .str a ∧ xs = [.str b] ∧ a.length ≤ sizeLine ∧ Q (.str (Txt.lstripChars a b)) H
theorem pe_lstripN {apos pos : Pos} (ho : PE X o to) (he : PE X e te) (hs : starEach [e] X.env = [(false, eval e X.env)] := by rfl) (hbase : attributeBase o "lstrip" X.env (eval o X.env) = eval o X.env := by rfl) (hline : (apos.endLine == pos.line) = true := by rfl) :
    PE X (.Call (.Attribute o "lstrip" apos) [e] [] pos) (tM1 rLstripN to te) := pe_lstrip ho he hs hbase hline
theorem r_lstripN {a b : Str} (ha : a.length ≤ sizeLine) (q : Q (.str (Txt.lstripChars a b)) H) : rLstripN (.str a) [.str b] H Q := ⟨a, b, rfl, rfl, ha, q⟩
end
end G57
end
section
set_option maxRecDepth 100000
set_option maxHeartbeats 4000000
/-! MText: texts as lists of codes. -/
namespace G57
open PySem PySem.Spec PyProof.Rows L2 TL
def mkS (l : List Nat) : Str := ⟨l.toArray⟩
theorem tl_mkS (l : List Nat) : tl (mkS l) = l := rfl
theorem mkS_tl (x : Str) : mkS (tl x) = x := mk_tl x
theorem mkS_inj {l m : List Nat} : mkS l = mkS m ↔ l = m := ⟨fun h => by have := congrArg tl h; exact this, fun h => by rw [h]⟩
theorem mkS_app (l m : List Nat) : mkS l ++ mkS m = mkS (l ++ m) := ext_tl (by rw [tl_append]; rfl)
theorem mkS_len (l : List Nat) : (mkS l).length = l.length := by rw [len_tl]; rfl
/-- filled up with spaces on the left -/
def pl (w : Nat) (l : List Nat) : List Nat := List.replicate (w - l.length) 32 ++ l
theorem pl_len (w : Nat) (l : List Nat) : (pl w l).length = max w l.length := by
  unfold pl; rw [List.length_append, List.length_replicate]; omega
theorem fillL_pl (w : Nat) (y : Str) : fillL w y = mkS (pl w (tl y)) := by
  refine ext_tl ?_
  show tl (fillL w y) = pl w (tl y)
  have hy := len_tl y
  unfold fillL pl
  by_cases h : y.length < w
  · rw [if_pos h]
    unfold padL Builtin.Str.padded
    rw [PyProof.Rows.strSub_whole]
    simp [tl, hy]
  · rw [if_neg h, show w - (tl y).length = 0 by omega]
    rfl
/-- a line of five words -/
def lnL (a b c d e : List Nat) : List Nat := pl 26 a ++ (pl 14 b ++ (pl 14 c ++ (pl 14 d ++ pl 14 e)))
theorem lnL_len (a b c d e : List Nat) : (lnL a b c d e).length = max 26 a.length + max 14 b.length + max 14 c.length + max 14 d.length + max 14 e.length := by
  unfold lnL; simp only [List.length_append, pl_len]; omega
/-! ### cuts -/
theorem cutS_take (l : List Nat) (k : Nat) : cutS (mkS l) none (some (k : Int)) = mkS (l.take k) := by
  refine ext_tl ?_
  show ((l.drop (HT.sIx (mkS l).length 0 none)).take _) = _
  rw [mkS_len, HT.sIx_nat, HT.sIx_none]
  simp only [List.drop_zero, Nat.sub_zero]
  show l.take (min k l.length) = l.take k
  rw [List.take_eq_take_iff]
  omega
theorem cutS_drop (l : List Nat) (k : Nat) : cutS (mkS l) (some (k : Int)) none = mkS (l.drop k) := by
  refine ext_tl ?_
  show ((l.drop (HT.sIx (mkS l).length 0 (some (k : Int)))).take _) = l.drop k
  rw [mkS_len, HT.sIx_nat, HT.sIx_none]
  have e : l.drop (min k l.length) = l.drop k := by
    by_cases h : k ≤ l.length
    · rw [Nat.min_eq_left h]
    · rw [List.drop_of_length_le (by omega), List.drop_of_length_le (by omega)]
  rw [e]
  refine List.take_of_length_le ?_
  rw [List.length_drop]
  omega
theorem cutS_mid (l : List Nat) (j k : Nat) (h : j ≤ k) : cutS (mkS l) (some (j : Int)) (some (k : Int)) = mkS ((l.drop j).take (k - j)) := by
  refine ext_tl ?_
  show ((l.drop (HT.sIx (mkS l).length 0 (some (j : Int)))).take _) = (l.drop j).take (k - j)
  rw [mkS_len, HT.sIx_nat, HT.sIx_nat]
  by_cases hj : j ≤ l.length
  · rw [Nat.min_eq_left hj, List.take_eq_take_iff, List.length_drop]
    omega
  · rw [List.drop_of_length_le (show l.length ≤ min j l.length by omega), List.drop_of_length_le (show l.length ≤ j by omega)]
    simp
/-! ### groups of three digits -/
theorem cmL_short {ds : List Nat} (h : ds.length ≤ 3) : cmL ds = ds := by
  unfold cmL
  cases e : ds.length with
  | zero => have : ds = [] := List.eq_nil_of_length_eq_zero e; subst this; rfl
  | succ k => simp [cr, e, show k + 1 ≤ 3 by omega]
theorem cmL_long {ds : List Nat} (h : 3 < ds.length) : cmL ds = cmL (ds.take (ds.length - 3)) ++ 44 :: ds.drop (ds.length - 3) := by
  unfold cmL
  obtain ⟨k, e⟩ : ∃ k, ds.length = k + 1 := ⟨ds.length - 1, by omega⟩
  have e1 : cr ds.length ds.reverse = ds.reverse.take 3 ++ 44 :: cr k (ds.reverse.drop 3) := by
    rw [e]; simp [cr, e, show ¬ k + 1 ≤ 3 by omega]
  rw [e1]
  have e2 : ds.reverse.drop 3 = (ds.take (ds.length - 3)).reverse := by rw [List.drop_reverse]
  have e3 : ds.reverse.take 3 = (ds.drop (ds.length - 3)).reverse := by rw [List.take_reverse]
  rw [e2, e3, cr_more k (ds.take (ds.length - 3)).length _ (by rw [List.length_reverse, List.length_take]; omega) (by rw [List.length_reverse]; omega)]
  simp
/-- what stands behind the first group -/
def tailG : List (List Nat) → List Nat
  | [] => []
  | g :: gs => 44 :: (g ++ tailG gs)
theorem join_tail (d : List Nat) (gs : List (List Nat)) : joinL [44] (d :: gs) = d ++ tailG gs := by
  induction gs generalizing d with
  | nil => simp [joinL, tailG]
  | cons g gs ih =>
    show d ++ ([44] ++ joinL [44] (g :: gs)) = _
    rw [ih]; simp [tailG]
theorem tailG_len (gs : List (List Nat)) : (tailG gs).length = (gs.map List.length).sum + gs.length := by
  induction gs with
  | nil => rfl
  | cons g gs ih => simp [tailG, ih]; omega
end G57
end
section
set_option maxRecDepth 100000
set_option maxHeartbeats 4000000
/-! XStr: comprehensions over a text; replace of one sign by nothing. -/
namespace G57
open PySem PySem.Spec PyProof.Rows L2 TL
section
variable {σ : L2.St} {H H1 : Hp} {Q : VK} {te : TE} {tt : TT}
def sg (c : Nat) : Str := ⟨#[c]⟩
theorem lcS {x : Str} {j : Nat} (p : Nat → Bool) (f : Nat → V) (hn : (tl x).length ≤ 100000)
    (hs : ∀ c H' (Z : Bool → Hp → Prop), c ∈ tl x → Same H1 H' → (∀ H4, Same H' H4 → Z (p c) H4) → SetR j (.str (sg c)) (fun s => tt s H' Z) σ)
    (ht : ∀ c H' (Z : VK), c ∈ tl x → p c = true → Same H1 H' → (∀ H4, Same H' H4 → Z (f c) H4) → SetR j (.str (sg c)) (fun s => te s H' Z) σ)
    (hd : ∀ D H', H1 D = none → Same H1 H' → H' D = some (.lst (((tl x).filter p).map f)) → Q (.ref D) H') : LcR (Its x) (gName j) tt te [j] σ Q H1 := fun D hD => by
  have lx : x.cps.size = (tl x).length := by simp [tl]
  refine ⟨fun i m H' => i ≤ (tl x).length ∧ m = (tl x).length - i ∧ H' D = some (.lst ((((tl x).take i).filter p).map f)) ∧ Same H1 H', ⟨_, Nat.zero_le _, rfl, by simp [upd_same], same_new hD⟩, ?_⟩
  rintro i m H' ⟨hi, rfl, he, sm⟩
  by_cases e : i = (tl x).length
  · subst e
    rw [List.take_length] at he
    exact .inl ⟨by show x.cps.size ≤ _; omega, hd D H' hD sm he⟩
  · have lt : i < (tl x).length := by omega
    refine .inr ⟨by show i < x.cps.size; omega, _, fun H' h => h, ?_⟩
    rintro v H'' ⟨rfl, c, hc, rfl⟩
    have hc2 : (tl x)[i]? = some c := by simpa [tl] using hc
    have mem : c ∈ tl x := List.mem_of_getElem? hc2
    have tk : (tl x).take (i + 1) = (tl x).take i ++ [c] := by
      rw [List.take_succ, hc2]; rfl
    refine ⟨wipe1' _, ?_⟩
    rw [wipe1]
    refine hs c _ _ mem sm fun H3 s3 => ?_
    have he3 := s3 _ _ he
    by_cases q : p c = true
    · rw [if_pos q]
      refine ht c _ _ mem q (sameT sm s3) fun H4 s4 => ?_
      have he4 := s4 _ _ he3
      refine ⟨_, he4, ?_, (tl x).length - (i + 1), by omega, by omega, rfl, ?_, same_mut (sameT (sameT sm s3) s4) hD⟩
      · have := List.length_filter_le p ((tl x).take i)
        have big : (100000 : Nat) ≤ sizeLine := Nat.le_of_ble_eq_true rfl
        rw [List.length_map]
        rw [List.length_take] at this
        omega
      · rw [upd_same, tk, List.filter_append]
        simp [q]
    · rw [if_neg q]
      refine ⟨(tl x).length - (i + 1), by omega, by omega, rfl, ?_, sameT sm s3⟩
      rw [he3, tk, List.filter_append]
      simp [q]
end
/-! ### replace -/
theorem repl_one (a : Nat) : ∀ l : List Nat, PySem.StrLaws.replL [a] [] l = l.filter (fun c => decide (c ≠ a))
  | [] => by rw [PySem.StrLaws.replL_nil]; rfl
  | c :: r => by
    by_cases h : c = a
    · subst h
      rw [PySem.StrLaws.replL_hit (by simp) (by simp)]
      simp only [List.length_singleton, List.drop_succ_cons, List.drop_zero, List.nil_append]
      rw [repl_one c r]
      simp
    · rw [PySem.StrLaws.replL_miss (by simp [h]), repl_one a r]
      simp [h]
end G57
namespace G57
open PySem PySem.Spec PyProof.Rows L2 TL
theorem replace_one {l : List Nat} : Txt.replace (mkS l) (Str.ofString ",") (Str.ofString "") = mkS (l.filter (fun c => decide (c ≠ 44))) := by
  refine ext_tl ?_
  have h1 : 1 ≤ (Str.ofString ",").length := by decide +kernel
  have e := PySem.StrLaws.replace_list (x := mkS l) (z := Str.ofString "") h1
  have t1 : (Str.ofString ",").cps.toList = [44] := by decide +kernel
  have t2 : (Str.ofString "").cps.toList = [] := by decide +kernel
  rw [t1, t2, repl_one] at e
  exact e
/-- the number that a word tells, commas passed over -/
def isD (c : Nat) : Bool := decide (48 ≤ c) && decide (c ≤ 57)
def nbOf (l : List Nat) : Option Nat :=
  let f := l.filter (fun c => decide (c ≠ 44))
  if f = [] ∨ f.all isD = false then none else some (NumText.digitsVal f)
theorem allD {l : List Nat} (h : l.all isD = true) : NumText.AllDigits l := fun c hc => by
  have := List.all_eq_true.mp h c hc
  unfold isD at this
  simp at this
  omega
theorem int_of {l : List Nat} (h : l.all isD = true) (h1 : l ≠ []) (h2 : l.length ≤ 600) : intText? (mkS l) = some ((NumText.digitsVal l : Nat) : Int) :=
  intText_digits (x := mkS l) (allD h) h1 (by rw [mkS_len]; omega)
theorem inDig (c : Nat) : decide (c ∈ (Str.ofString "0123456789").cps.toList) = isD c := by
  have e : (Str.ofString "0123456789").cps.toList = [48, 49, 50, 51, 52, 53, 54, 55, 56, 57] := by decide +kernel
  rw [e]
  unfold isD
  by_cases h : 48 ≤ c ∧ c ≤ 57
  · rw [decide_eq_true h.1, decide_eq_true h.2]
    simp
    omega
  · rw [decide_eq_false]
    · by_cases h1 : 48 ≤ c
      · rw [decide_eq_true h1, decide_eq_false (by omega)]; rfl
      · rw [decide_eq_false h1]; rfl
    · simp
      omega
end G57
namespace G57
open PySem PySem.Spec PyProof.Rows L2 TL
section
variable {K : PySem.W.Frag} {σ : L2.St} {H1 : Hp} {Q : VK} {te : TE}
theorem map_atS {xs : List Int} {ys : List V} {f : Int → Str} (l : ys.length = xs.length) (h : ∀ (i : Nat) (y : V), ys[i]? = some y → ∃ x, xs[i]? = some x ∧ y = V.str (f x)) : ys = (xs.map f).map V.str := by
  refine List.ext_getElem? fun i => ?_
  by_cases lt : i < ys.length
  · obtain ⟨x, hx, e⟩ := h i _ (List.getElem?_eq_getElem lt)
    rw [List.getElem?_eq_getElem lt, e, List.getElem?_map, List.getElem?_map, hx]
    rfl
  · rw [List.getElem?_eq_none (by omega), List.getElem?_eq_none (by simp; omega)]
theorem lcW_list {a : Addr} {xs : List Int} {j : Nat} (f : Int → Str) (hl : H1 a = some (.lst (xs.map V.int))) (hn : xs.length ≤ 100000)
    (hs : ∀ x H' (Z : VK), x ∈ xs → Same H1 H' → (∀ H4, Same H' H4 → Z (.str (f x)) H4) → SetR j (.int x) (fun s => te s H' Z) σ)
    (hd : ∀ D H', H1 D = none → Same H1 H' → H' D = some (.lst ((xs.map f).map V.str)) → Q (.ref D) H') : LcR (Itl K a) (gName j) tYes te [j] σ Q H1 :=
  lcN_list (fun i v _ => ∃ x, xs[i]? = some x ∧ v = .str (f x)) (fun _ _ => Stab.triv) hl (Nat.le_trans (by rw [List.length_map]; exact hn) (by decide : 100000 ≤ sizeLine)) wipe1' (fun i v H' Z hx s z => by
    rw [wipe1]
    obtain ⟨y, hy, rfl⟩ : ∃ y, xs[i]? = some y ∧ V.int y = v := by simpa using hx
    exact hs y H' Z (List.mem_of_getElem? hy) s fun H4 s4 => z _ _ s4 ⟨y, hy, rfl⟩) fun D H' ys hD s e l h => hd D H' hD s (by rw [e, map_atS (by rw [l, List.length_map]) h])
theorem lcW_tup {a : Addr} {xs : List Int} {j : Nat} (f : Int → Str) (hl : SqT K H1 a (xs.map V.int)) (hn : xs.length ≤ 100000)
    (hs : ∀ x H' (Z : VK), x ∈ xs → Same H1 H' → (∀ H4, Same H' H4 → Z (.str (f x)) H4) → SetR j (.int x) (fun s => te s H' Z) σ)
    (hd : ∀ D H', H1 D = none → Same H1 H' → H' D = some (.lst ((xs.map f).map V.str)) → Q (.ref D) H') : LcR (Itt K a) (gName j) tYes te [j] σ Q H1 :=
  lcN_tup (fun i v _ => ∃ x, xs[i]? = some x ∧ v = .str (f x)) (fun _ _ => Stab.triv) hl (Nat.le_trans (by rw [List.length_map]; exact hn) (by decide : 100000 ≤ sizeLine)) wipe1' (fun i v H' Z hx s z => by
    rw [wipe1]
    obtain ⟨y, hy, rfl⟩ : ∃ y, xs[i]? = some y ∧ V.int y = v := by simpa using hx
    exact hs y H' Z (List.mem_of_getElem? hy) s fun H4 s4 => z _ _ s4 ⟨y, hy, rfl⟩) fun D H' ys hD s e l h => hd D H' hD s (by rw [e, map_atS (by rw [l, List.length_map]) h])
end
end G57
end
section
set_option maxRecDepth 100000
set_option maxHeartbeats 4000000
/-! MRow: a line read in two ways. -/
namespace G57
open PySem PySem.Spec PyProof.Rows L2 TL
/-- the number that a word tells that is written as the law writes it -/
def lnOf (l : List Nat) : Option Nat :=
  let f := l.filter isD
  if f = [] ∨ ¬ cmL (dg (NumText.digitsVal f)) = l then none else some (NumText.digitsVal f)
theorem dv_app (l : List Nat) (c : Nat) : NumText.digitsVal (l ++ [c]) = NumText.digitsVal l * 10 + (c - 48) := by
  unfold NumText.digitsVal
  rw [List.foldl_append]
  rfl
theorem dv_lt : ∀ (n : Nat) (l : List Nat), l.length = n → NumText.AllDigits l → NumText.digitsVal l < 10 ^ n := by
  intro n
  induction n with
  | zero =>
    intro l h _
    have : l = [] := List.eq_nil_of_length_eq_zero h
    subst this
    decide
  | succ n ih =>
    intro l h a
    obtain ⟨m, c, rfl⟩ : ∃ m c, l = m ++ [c] := ⟨l.dropLast, l.getLast (by intro z; rw [z] at h; simp at h), (List.dropLast_concat_getLast _).symm⟩
    have hm : m.length = n := by simp at h; exact h
    have am : NumText.AllDigits m := fun x hx => a x (List.mem_append_left _ hx)
    have ac := a c (by simp)
    have := ih m hm am
    rw [dv_app, Nat.pow_succ]
    omega
/-- a number as it is written -/
def cw (n : Nat) : List Nat := cmL (dg n)
theorem dg_all (n : Nat) : (dg n).all isD = true := by
  rw [List.all_eq_true]
  intro c hc
  have := numL_digits n c hc
  unfold isD
  rw [decide_eq_true (by omega), decide_eq_true (by omega)]
  rfl
theorem isD_ne {c : Nat} (h : isD c = true) : 48 ≤ c ∧ c ≤ 57 := by
  unfold isD at h
  simp at h
  exact h
theorem cm_ind (P : List Nat → Prop) (h1 : ∀ ds, ds.length ≤ 3 → P ds) (h2 : ∀ ds, 3 < ds.length → P (ds.take (ds.length - 3)) → P ds) : ∀ ds, P ds := by
  have key : ∀ (k : Nat) (ds : List Nat), ds.length ≤ k → P ds := by
    intro k
    induction k with
    | zero => intro ds h; exact h1 ds (by omega)
    | succ k ih =>
      intro ds h
      by_cases c : ds.length ≤ 3
      · exact h1 ds c
      · exact h2 ds (by omega) (ih _ (by rw [List.length_take]; omega))
  exact fun ds => key _ ds (Nat.le_refl _)
theorem cm_filter (q : Nat → Bool) (q44 : q 44 = false) : ∀ ds, ds.all q = true → (cmL ds).filter q = ds := by
  refine cm_ind _ (fun ds h a => ?_) fun ds h ih a => ?_
  · rw [cmL_short h, List.filter_eq_self]
    exact List.all_eq_true.mp a
  · have a1 : (ds.take (ds.length - 3)).all q = true := List.all_eq_true.mpr fun c hc => List.all_eq_true.mp a c (List.mem_of_mem_take hc)
    have a2 : ∀ c ∈ ds.drop (ds.length - 3), q c = true := fun c hc => List.all_eq_true.mp a c (List.mem_of_mem_drop hc)
    rw [cmL_long h, List.filter_append, ih a1, List.filter_cons, q44]
    simp only [Bool.false_eq_true, if_false]
    rw [List.filter_eq_self.mpr a2, List.take_append_drop]
theorem cm_head : ∀ ds : List Nat, ds ≠ [] → ∃ c r, cmL ds = c :: r ∧ c ∈ ds := by
  refine cm_ind _ (fun ds h n => ?_) fun ds h ih n => ?_
  · rw [cmL_short h]
    cases ds with
    | nil => exact absurd rfl n
    | cons c r => exact ⟨c, r, rfl, by simp⟩
  · obtain ⟨c, r, e, m⟩ := ih (fun z => by have := congrArg List.length z; rw [List.length_take] at this; simp at this; omega)
    rw [cmL_long h, e]
    exact ⟨c, _, rfl, List.mem_of_mem_take m⟩
theorem cm_last : ∀ ds : List Nat, ds ≠ [] → ∃ m c, cmL ds = m ++ [c] ∧ c ∈ ds := by
  refine cm_ind _ (fun ds h n => ?_) fun ds h ih n => ?_
  · rw [cmL_short h]
    exact ⟨ds.dropLast, ds.getLast n, (List.dropLast_concat_getLast n).symm, List.getLast_mem n⟩
  · have nd : ds.drop (ds.length - 3) ≠ [] := fun z => by have := congrArg List.length z; rw [List.length_drop] at this; simp at this; omega
    rw [cmL_long h]
    refine ⟨cmL (ds.take (ds.length - 3)) ++ 44 :: (ds.drop (ds.length - 3)).dropLast, (ds.drop (ds.length - 3)).getLast nd, ?_, List.mem_of_mem_drop (List.getLast_mem nd)⟩
    rw [List.append_assoc, List.cons_append, List.dropLast_concat_getLast]
theorem dg_ne (n : Nat) : dg n ≠ [] := numL_ne n
theorem cw_filter (n : Nat) : (cw n).filter (fun c => decide (c ≠ 44)) = dg n :=
  cm_filter _ (by simp) _ (List.all_eq_true.mpr fun c hc => by
    have := isD_ne (List.all_eq_true.mp (dg_all n) c hc)
    exact decide_eq_true (by omega))
theorem cw_filterD (n : Nat) : (cw n).filter isD = dg n := cm_filter _ (by decide) _ (dg_all n)
theorem nbOf_cw (n : Nat) : nbOf (cw n) = some n := by
  unfold nbOf
  dsimp only
  rw [cw_filter, if_neg (by simp [dg_ne, dg_all]), show NumText.digitsVal (dg n) = n from numL_val n]
theorem lnOf_cw (n : Nat) : lnOf (cw n) = some n := by
  unfold lnOf
  dsimp only
  rw [cw_filterD, show NumText.digitsVal (dg n) = n from numL_val n, if_neg (by simp [dg_ne]; rfl)]
theorem lnOf_some {s : List Nat} {n : Nat} (h : lnOf s = some n) : s = cw n ∧ nbOf s = some n := by
  unfold lnOf at h
  dsimp only at h
  split at h
  · cases h
  · rename_i c
    have e : cmL (dg (NumText.digitsVal (s.filter isD))) = s := Classical.byContradiction fun z => c (.inr z)
    have en : NumText.digitsVal (s.filter isD) = n := Option.some.inj h
    rw [en] at e
    have : s = cw n := e.symm
    exact ⟨this, by rw [this]; exact nbOf_cw n⟩
/-- spaces on the left taken away -/
def stp (l : List Nat) : List Nat := l.dropWhile (fun c => decide (c = 32))
theorem stp_sp : ∀ (k : Nat) (l : List Nat), stp (List.replicate k 32 ++ l) = stp l
  | 0, l => by simp
  | k + 1, l => by
    rw [List.replicate_succ, List.cons_append]
    show stp (32 :: (List.replicate k 32 ++ l)) = _
    rw [show stp (32 :: (List.replicate k 32 ++ l)) = stp (List.replicate k 32 ++ l) from by simp [stp]]
    exact stp_sp k l
theorem stp_dig {c : Nat} {r : List Nat} (h : isD c = true) : stp (c :: r) = c :: r := by
  have := isD_ne h
  unfold stp
  rw [List.dropWhile_cons_of_neg (by simp; omega)]
theorem cw_head (n : Nat) : ∃ c r, cw n = c :: r ∧ isD c = true := by
  obtain ⟨c, r, e, m⟩ := cm_head (dg n) (dg_ne n)
  exact ⟨c, r, e, List.all_eq_true.mp (dg_all n) c m⟩
theorem stp_cw (n : Nat) : stp (cw n) = cw n := by
  obtain ⟨c, r, e, h⟩ := cw_head n
  rw [e, stp_dig h]
theorem stp_pl (w n : Nat) : stp (pl w (cw n)) = cw n := by
  unfold pl
  rw [stp_sp, stp_cw]
/-- a word too long for its place would be read as another number -/
theorem fits_of {w n : Nat} {rest : List Nat} (w0 : 0 < w) (h : nbOf (stp ((pl w (cw n) ++ rest).take w)) = some n) : (cw n).length ≤ w := by
  refine Classical.byContradiction fun c => ?_
  have c : w < (cw n).length := by omega
  have e1 : (pl w (cw n) ++ rest).take w = (cw n).take w := by
    unfold pl
    rw [show w - (cw n).length = 0 by omega, List.replicate_zero, List.nil_append, List.take_append_of_le_length (by omega)]
  obtain ⟨c0, r0, e0, d0⟩ := cw_head n
  have e2 : stp ((cw n).take w) = (cw n).take w := by
    rw [e0]
    obtain ⟨k, rfl⟩ : ∃ k, w = k + 1 := ⟨w - 1, by omega⟩
    rw [List.take_succ_cons, stp_dig d0]
  rw [e1, e2] at h
  unfold nbOf at h
  dsimp only at h
  split at h
  · cases h
  · rename_i q
    have en := Option.some.inj h
    obtain ⟨g, hg⟩ : ∃ g, g = ((cw n).take w).filter (fun c => decide (c ≠ 44)) := ⟨_, rfl⟩
    rw [← hg] at q en
    have gn : g ≠ [] := fun z => q (.inl z)
    have ga : g.all isD = true := by
      cases hh : g.all isD with
      | true => rfl
      | false => exact absurd (.inr hh) q
    have split : g ++ ((cw n).drop w).filter (fun c => decide (c ≠ 44)) = dg n := by
      rw [hg, ← List.filter_append, List.take_append_drop, cw_filter]
    obtain ⟨m, d, el, hd⟩ := cm_last (dg n) (dg_ne n)
    have hdd := isD_ne (List.all_eq_true.mp (dg_all n) d hd)
    have mem : d ∈ ((cw n).drop w).filter (fun c => decide (c ≠ 44)) := by
      refine List.mem_filter.mpr ⟨?_, decide_eq_true (by omega)⟩
      have ew : cw n = m ++ [d] := el
      rw [ew] at c ⊢
      rw [List.length_append] at c
      simp only [List.length_singleton] at c
      rw [List.drop_append_of_le_length (by omega)]
      simp
    have pos : 0 < (((cw n).drop w).filter (fun c => decide (c ≠ 44))).length := List.length_pos_of_mem mem
    have lens := congrArg List.length split
    rw [List.length_append] at lens
    have gp : 0 < g.length := List.length_pos_iff.mpr gn
    have lt := dv_lt g.length g rfl (allD ga)
    rw [en] at lt
    have := numL_len (k := g.length) gp lt
    have : (dg n).length ≤ g.length := this
    omega
theorem take_pl {w n : Nat} {rest : List Nat} (h : (cw n).length ≤ w) : (pl w (cw n) ++ rest).take w = pl w (cw n) ∧ (pl w (cw n) ++ rest).drop w = rest := by
  have l := pl_len w (cw n)
  have l2 : (pl w (cw n)).length = w := by omega
  constructor
  · rw [List.take_append_of_le_length (by omega), List.take_of_length_le (by omega)]
  · rw [List.drop_append_of_le_length (by omega), List.drop_of_length_le (by omega)]; rfl
def cutW (l : List Nat) (o w : Nat) : List Nat := stp ((l.drop o).take w)
def rowOf (nb : List Nat → Option Nat) (l : List Nat) : Option (Nat × Nat × Nat × Nat × Nat) :=
  match nb (cutW l 0 26), nb (cutW l 26 14), nb (cutW l 40 14), nb (cutW l 54 14), nb (cutW l 68 14) with
  | some a, some b, some c, some d, some e => if lnL (cw a) (cw b) (cw c) (cw d) (cw e) = l then some (a, b, c, d, e) else none
  | _, _, _, _, _ => none
theorem row_some {nb : List Nat → Option Nat} {l : List Nat} {a b c d e : Nat} : rowOf nb l = some (a, b, c, d, e) ↔
    nb (cutW l 0 26) = some a ∧ nb (cutW l 26 14) = some b ∧ nb (cutW l 40 14) = some c ∧ nb (cutW l 54 14) = some d ∧ nb (cutW l 68 14) = some e ∧ lnL (cw a) (cw b) (cw c) (cw d) (cw e) = l := by
  unfold rowOf
  constructor
  · intro h
    split at h
    · split at h
      · rename_i h1 h2 h3 h4 h5 h6
        have := Option.some.inj h
        simp only [Prod.mk.injEq] at this
        obtain ⟨rfl, rfl, rfl, rfl, rfl⟩ := this
        exact ⟨h1, h2, h3, h4, h5, h6⟩
      · cases h
    · cases h
  · rintro ⟨h1, h2, h3, h4, h5, h6⟩
    rw [h1, h2, h3, h4, h5]
    simp [h6]
theorem row_step {o w n : Nat} {l rest : List Nat} (w0 : 0 < w) (hl : l.drop o = pl w (cw n) ++ rest) (h : nbOf (cutW l o w) = some n) : lnOf (cutW l o w) = some n ∧ l.drop (o + w) = rest := by
  unfold cutW at h ⊢
  rw [hl] at h ⊢
  have f := fits_of w0 h
  obtain ⟨t1, t2⟩ := take_pl (rest := rest) f
  rw [t1, stp_pl]
  exact ⟨lnOf_cw n, by rw [← List.drop_drop, hl, t2]⟩
theorem row_same (l : List Nat) : rowOf nbOf l = rowOf lnOf l := by
  refine Option.ext fun ⟨a, b, c, d, e⟩ => ?_
  rw [row_some, row_some]
  constructor
  · rintro ⟨h1, h2, h3, h4, h5, h6⟩
    have e0 : l.drop 0 = pl 26 (cw a) ++ (pl 14 (cw b) ++ (pl 14 (cw c) ++ (pl 14 (cw d) ++ pl 14 (cw e)))) := h6.symm
    obtain ⟨k1, e1⟩ := row_step (by decide) e0 h1
    obtain ⟨k2, e2⟩ := row_step (by decide) e1 h2
    obtain ⟨k3, e3⟩ := row_step (by decide) e2 h3
    obtain ⟨k4, e4⟩ := row_step (by decide) e3 h4
    obtain ⟨k5, _⟩ := row_step (rest := []) (by decide) (by rw [List.append_nil]; exact e4) h5
    exact ⟨k1, k2, k3, k4, k5, h6⟩
  · rintro ⟨h1, h2, h3, h4, h5, h6⟩
    exact ⟨(lnOf_some h1).2, (lnOf_some h2).2, (lnOf_some h3).2, (lnOf_some h4).2, (lnOf_some h5).2, h6⟩
theorem drop_takeWhile (p : Nat → Bool) : ∀ l : List Nat, l.drop (l.takeWhile p).length = l.dropWhile p
  | [] => rfl
  | c :: r => by
    by_cases h : p c = true
    · rw [List.takeWhile_cons_of_pos h, List.dropWhile_cons_of_pos h, List.length_cons, List.drop_succ_cons]
      exact drop_takeWhile p r
    · rw [List.takeWhile_cons_of_neg h, List.dropWhile_cons_of_neg h]; rfl
theorem lstrip_stp (l : List Nat) : Txt.lstripChars (mkS l) (Str.ofString " ") = mkS (stp l) := by
  refine ext_tl ?_
  unfold Txt.lstripChars
  rw [stripBy_eq]
  have e : stripHi (Str.ofString " ").cps.contains false (mkS l) (stripLo (Str.ofString " ").cps.contains true (mkS l)) = (mkS l).length := rfl
  rw [e, tl_strSub_end]
  have e2 : stripLo (Str.ofString " ").cps.contains true (mkS l) = (l.takeWhile (fun c => decide (c = 32))).length := by
    unfold stripLo
    rw [if_pos rfl]
    have t1 : (Str.ofString " ").cps = #[32] := by decide +kernel
    have : (fun c => (Str.ofString " ").cps.contains c) = fun c => decide (c = 32) := by
      funext c
      rw [t1]
      by_cases h : c = 32
      · subst h; simp
      · simp [h]
    show (l.takeWhile (fun c => (Str.ofString " ").cps.contains c)).length = _
    rw [this]
  rw [e2]
  exact drop_takeWhile _ l
end G57
end
section
set_option maxRecDepth 100000
set_option maxHeartbeats 4000000
/-! MLines: a text's lines. -/
namespace G57
open PySem PySem.Spec PyProof.Rows L2 TL
/-- the lines of a text -/
def lns (l : List Nat) : List (List Nat) := (Txt.split (mkS l) (Str.ofString "\n")).map tl
theorem split_lns (l : List Nat) : Txt.split (mkS l) (Str.ofString "\n") = (lns l).map mkS := by
  unfold lns
  rw [List.map_map]
  exact (List.map_id'' (fun x => mkS_tl x) _).symm
theorem lns_ne (l : List Nat) : ∃ h r, lns l = h :: r := by
  have : ∃ p r, Txt.split (mkS l) (Str.ofString "\n") = p :: r := by
    unfold Txt.split
    split
    · exact ⟨_, _, rfl⟩
    · split
      · exact ⟨_, _, rfl⟩
      · rw [StrLaws.partsBetween_eq]
        exact StrLaws.partsFrom_ne _ _ _ _
  obtain ⟨p, r, e⟩ := this
  exact ⟨tl p, r.map tl, by unfold lns; rw [e]; rfl⟩
theorem lns_join (l : List Nat) : joinL [10] (lns l) = l := by
  have h := StrLaws.join_split (mkS l) (Str.ofString "\n")
  have h2 := congrArg tl h
  rw [tl_join, show tl (Str.ofString "\n") = [10] from by decide +kernel] at h2
  exact h2
theorem joinL_len (s : List Nat) : ∀ ls : List (List Nat), ls ≠ [] → (joinL s ls).length + s.length = (ls.map List.length).sum + ls.length * s.length
  | [], h => absurd rfl h
  | [a], _ => by simp [joinL]
  | a :: b :: ls, _ => by
    have ih := joinL_len s (b :: ls) (by simp)
    show (a ++ (s ++ joinL s (b :: ls))).length + s.length = _
    rw [List.length_append, List.length_append, List.map_cons, List.sum_cons, List.length_cons (as := b :: ls), Nat.succ_mul]
    omega
theorem lns_total (l : List Nat) : ((lns l).map List.length).sum + (lns l).length = l.length + 1 := by
  obtain ⟨h, r, e⟩ := lns_ne l
  have := joinL_len [10] (lns l) (by rw [e]; simp)
  rw [lns_join] at this
  simp only [List.length_singleton, Nat.mul_one] at this
  omega
theorem mem_sum {x : Nat} : ∀ {l : List Nat}, x ∈ l → x ≤ l.sum
  | y :: l, h => by
    rw [List.sum_cons]
    rcases List.mem_cons.mp h with rfl | h
    · omega
    · have := mem_sum h; omega
theorem lns_le (l : List Nat) {x : List Nat} (h : x ∈ lns l) : x.length ≤ l.length := by
  have h1 := mem_sum (List.mem_map_of_mem (f := List.length) h)
  have h2 := lns_total l
  obtain ⟨a, r, e⟩ := lns_ne l
  have : 0 < (lns l).length := by rw [e]; simp
  omega
theorem lns_many (l : List Nat) : (lns l).length ≤ l.length + 1 := by
  have := lns_total l
  omega
theorem len_mkS (ls : List (List Nat)) : (ls.map mkS).map (·.length) = ls.map List.length := by
  rw [List.map_map]
  exact List.map_congr_left fun a _ => mkS_len a
theorem join_mkS (ls : List (List Nat)) : Txt.join (Str.ofString "\n") (ls.map mkS) = mkS (joinL [10] ls) := by
  refine ext_tl ?_
  rw [join_eq, tl_join, show tl (Str.ofString "\n") = [10] from by decide +kernel, List.map_map, show (ls.map (tl ∘ mkS)) = ls from List.map_id'' (fun _ => rfl) _]
  rfl
/-- the signs of lines, an end for each -/
def tot (L : List (List Nat)) : Nat := (L.map List.length).sum + L.length
theorem tot_app (L M : List (List Nat)) : tot (L ++ M) = tot L + tot M := by
  unfold tot
  rw [List.map_append, List.sum_append, List.length_append]
  omega
theorem tot_take (L : List (List Nat)) (k : Nat) : tot (L.take k) ≤ tot L := by
  have := tot_app (L.take k) (L.drop k)
  rw [List.take_append_drop] at this
  omega
theorem tot_drop (L : List (List Nat)) (k : Nat) : tot (L.drop k) ≤ tot L := by
  have := tot_app (L.take k) (L.drop k)
  rw [List.take_append_drop] at this
  omega
theorem tot_lns (l : List Nat) : tot (lns l) = l.length + 1 := lns_total l
theorem joinL_tot (L : List (List Nat)) : (joinL [10] L).length ≤ tot L := by
  by_cases e : L = []
  · subst e
    exact Nat.zero_le _
  · have := joinL_len [10] L e
    simp only [List.length_singleton, Nat.mul_one] at this
    unfold tot
    omega
theorem atI_nat {α : Type} {xs : List α} {j : Nat} {c : α} (h : xs[j]? = some c) : atI xs (j : Int) = some c := by
  have := (List.getElem?_eq_some_iff.mp h).1
  unfold atI ixN
  rw [if_pos (by omega), if_pos (by omega)]
  exact h
theorem r_ixS {H : Hp} {Q : VK} {z : Str} {i : Int} {j c : Nat} (e : i = (j : Int)) (hz : z.length ≤ sizeLine) (h : (tl z)[j]? = some c) (q : Q (.str (sg c)) H) : L2.rIxS (.str z) (.int i) H Q := ⟨z, i, c, rfl, rfl, hz, by rw [e]; exact atI_nat h, q⟩
/-! ### what a report tells -/
abbrev Row5 := Nat × Nat × Nat × Nat × Nat
def rowV (r : Row5) : List V := [.int (r.1 : Nat), .int (r.2.1 : Nat), .int (r.2.2.1 : Nat), .int (r.2.2.2.1 : Nat), .int (r.2.2.2.2 : Nat)]
/-- the rows of lines, or which line is none -/
def rdL (ls : List (List Nat)) : Nat → Except Nat (List Row5)
  | 0 => .ok []
  | i + 1 => match rdL ls i with
    | .error e => .error e
    | .ok rs => match rowOf nbOf (ls.getD i []) with
      | none => .error (i + 1)
      | some r => .ok (rs ++ [r])
theorem rdL_len {ls : List (List Nat)} : ∀ {i : Nat} {rs : List Row5}, rdL ls i = .ok rs → rs.length = i
  | 0, rs, h => by cases h; rfl
  | i + 1, rs, h => by
    unfold rdL at h
    split at h
    · cases h
    · rename_i rs' e
      split at h
      · cases h
      · cases h
        rw [List.length_append, rdL_len e]; rfl
theorem rdL_err {ls : List (List Nat)} {e : Nat} : ∀ {i j : Nat}, rdL ls i = .error e → i ≤ j → rdL ls j = .error e
  | i, 0, h, l => by have : i = 0 := by omega
                     subst this; exact h
  | i, j + 1, h, l => by
    by_cases c : i = j + 1
    · subst c; exact h
    · unfold rdL
      rw [rdL_err (j := j) h (by omega)]
theorem rdL_next {ls : List (List Nat)} {i : Nat} {rs : List Row5} (h : rdL ls i = .ok rs) : rdL ls (i + 1) = match rowOf nbOf (ls.getD i []) with
    | none => .error (i + 1)
    | some r => .ok (rs ++ [r]) := by
  rw [rdL, h]
/-- where a column begins -/
def ofs5 : Nat → Nat
  | 0 => 0
  | 1 => 26
  | 2 => 40
  | 3 => 54
  | 4 => 68
  | _ => 82
def wdt5 : Nat → Nat
  | 0 => 26
  | _ => 14
theorem ofs_next {i : Nat} (h : i < 5) : ofs5 (i + 1) = ofs5 i + wdt5 i := by
  match i, h with
  | 0, _ => rfl
  | 1, _ => rfl
  | 2, _ => rfl
  | 3, _ => rfl
  | 4, _ => rfl
theorem wdt_le (i : Nat) : wdt5 i ≤ 26 := by
  match i with
  | 0 => decide
  | n + 1 => show 14 ≤ 26; decide
/-- the first columns of a line -/
def colsOf (nb : List Nat → Option Nat) (l : List Nat) (i : Nat) : List (Option Nat) := (List.range i).map fun j => nb (cutW l (ofs5 j) (wdt5 j))
theorem cols_next (nb : List Nat → Option Nat) (l : List Nat) (i : Nat) : colsOf nb l (i + 1) = colsOf nb l i ++ [nb (cutW l (ofs5 i) (wdt5 i))] := by
  unfold colsOf
  rw [List.range_succ, List.map_append]
  rfl
theorem cols_len (nb : List Nat → Option Nat) (l : List Nat) (i : Nat) : (colsOf nb l i).length = i := by simp [colsOf]
theorem cols_five (nb : List Nat → Option Nat) (l : List Nat) : colsOf nb l 5 = [nb (cutW l 0 26), nb (cutW l 26 14), nb (cutW l 40 14), nb (cutW l 54 14), nb (cutW l 68 14)] := rfl
theorem row_of_cols {nb : List Nat → Option Nat} {l : List Nat} {a b c d e : Nat} (h : colsOf nb l 5 = [some a, some b, some c, some d, some e]) : rowOf nb l = if lnL (cw a) (cw b) (cw c) (cw d) (cw e) = l then some (a, b, c, d, e) else none := by
  rw [cols_five] at h
  simp only [List.cons.injEq, and_true] at h
  obtain ⟨h1, h2, h3, h4, h5⟩ := h
  unfold rowOf
  rw [h1, h2, h3, h4, h5]
theorem row_gone {nb : List Nat → Option Nat} {l : List Nat} (h : (colsOf nb l 5).any Option.isNone = true) : rowOf nb l = none := by
  cases e : rowOf nb l with
  | none => rfl
  | some r =>
    obtain ⟨a, b, c, d, f⟩ := r
    obtain ⟨h1, h2, h3, h4, h5, _⟩ := row_some.mp e
    rw [cols_five, h1, h2, h3, h4, h5] at h
    cases h
theorem cols_some : ∀ {xs : List (Option Nat)}, xs.any Option.isNone = false → ∃ ns : List Nat, xs = ns.map some
  | [], _ => ⟨[], rfl⟩
  | none :: xs, h => by simp at h
  | some n :: xs, h => by
    obtain ⟨ns, e⟩ := cols_some (xs := xs) (by simpa using h)
    exact ⟨n :: ns, by rw [e]; rfl⟩
theorem cols_all {nb : List Nat → Option Nat} {l : List Nat} (h : (colsOf nb l 5).any Option.isNone = false) : ∃ a b c d e, colsOf nb l 5 = [some a, some b, some c, some d, some e] := by
  obtain ⟨ns, e⟩ := cols_some h
  have hl := congrArg List.length e
  rw [cols_len, List.length_map] at hl
  match ns, hl with
  | [a, b, c, d, f], _ => exact ⟨a, b, c, d, f, e⟩
theorem stp_len (l : List Nat) : (stp l).length ≤ l.length := by
  unfold stp
  rw [← drop_takeWhile, List.length_drop]
  omega
theorem cutW_len (l : List Nat) (o w : Nat) : (cutW l o w).length ≤ w := by
  unfold cutW
  refine Nat.le_trans (stp_len _) ?_
  rw [List.length_take]
  omega
theorem nbOf_lt {l : List Nat} {n : Nat} (h : nbOf l = some n) (hl : l.length ≤ 30) : (n : Int) < 1000000000000000000000000000000 := by
  unfold nbOf at h
  dsimp only at h
  split at h
  · cases h
  · rename_i q
    have en := Option.some.inj h
    rw [← en]
    have ga : (l.filter (fun c => decide (c ≠ 44))).all isD = true := by
      cases hh : (l.filter (fun c => decide (c ≠ 44))).all isD with
      | true => rfl
      | false => exact absurd (.inr hh) q
    have fl := List.length_filter_le (fun c => decide (c ≠ 44)) l
    have h1 := dv_lt _ (l.filter (fun c => decide (c ≠ 44))) rfl (allD ga)
    have h2 : 10 ^ (l.filter (fun c => decide (c ≠ 44))).length ≤ 10 ^ 30 := Nat.pow_le_pow_right (by decide) (by omega)
    have h3 : (10 : Nat) ^ 30 = 1000000000000000000000000000000 := by decide
    omega
theorem lnOf_lt {l : List Nat} {n : Nat} (h : lnOf l = some n) (hl : l.length ≤ 30) : (n : Int) < 1000000000000000000000000000000 := nbOf_lt (lnOf_some h).2 hl
theorem cols_lt {nb : List Nat → Option Nat} {l : List Nat} {a b c d e : Nat} (hn : ∀ l n, nb l = some n → l.length ≤ 30 → (n : Int) < 1000000000000000000000000000000) (h : colsOf nb l 5 = [some a, some b, some c, some d, some e]) : ∀ x ∈ [(a : Int), b, c, d, e], 0 ≤ x ∧ x < 1000000000000000000000000000000 := by
  rw [cols_five] at h
  simp only [List.cons.injEq, and_true] at h
  obtain ⟨h1, h2, h3, h4, h5⟩ := h
  have k1 := hn _ _ h1 (Nat.le_trans (cutW_len _ _ _) (by decide))
  have k2 := hn _ _ h2 (Nat.le_trans (cutW_len _ _ _) (by decide))
  have k3 := hn _ _ h3 (Nat.le_trans (cutW_len _ _ _) (by decide))
  have k4 := hn _ _ h4 (Nat.le_trans (cutW_len _ _ _) (by decide))
  have k5 := hn _ _ h5 (Nat.le_trans (cutW_len _ _ _) (by decide))
  intro x hx
  simp only [List.mem_cons, List.not_mem_nil, or_false] at hx
  omega
/-- a report's reading, its head first -/
def rdT (hd : List Nat) (l : List Nat) : Except Nat (List Row5) := match lns l with
  | [] => .error 0
  | h :: ls => if h = hd then rdL ls ls.length else .error 0
end G57
end
section
set_option maxRecDepth 100000
set_option maxHeartbeats 4000000
/-! XRules2: max and min of a tuple of ints. -/
namespace G57
open PySem PySem.Spec PyProof.Rows L2
section
theorem max_tup_raw {prog : Program} {w : World} {A : Around} {E : Value → Shared → Prop} {s : Shared} {t : Addr} {its : List Value} {ns : List Int} {Q : Value → Shared → Prop} (hh : A.handled = none) (ht : s.heap.IsTuple t its.toArray) (hi : IntsAre its ns) (hne : 0 < ns.length)
    (h : ∀ h' tk M t', (∀ b o, s.heap.get? b = some o → h'.get? b = some o) → M ∈ ns → (∀ a, a ∈ ns → a ≤ M) → Q (.int M t') { s with heap := h', toks := tk }) : wpAny (model prog w) A (call (.builtin "max") [.ref t]) Q E s := by
  obtain ⟨xs, e⟩ := hi.allInts.items
  have hn : numsOf (intItems xs).toList = ns := by
    rw [← e]
    exact hi.numsOf
  rw [nums_intItems] at hn
  subst hn
  rw [e] at ht
  have hsz : 0 < xs.size := by simpa using hne
  have hlt : t < s.heap.objs.size := by
    obtain ⟨_, z, _⟩ := ht
    exact Heap.lt_size z
  refine call_max_walk (wpAny_pyIter_tuple ht ?_)
  have st : (s.heap.push { cls := .type "tuple_iterator", data := .fields #[.ref t, .int 0 0] }).IsTupleIter s.heap.objs.size t 0 ∧ (s.heap.push { cls := .type "tuple_iterator", data := .fields #[.ref t, .int 0 0] }).IsTuple t (intItems xs) :=
    ⟨⟨_, Heap.get?_push_size _ rfl, rfl, rfl⟩, ht.at fun o z => Heap.get?_push_of_some _ z⟩
  refine ⟨_, _, _, _, _, _, _, rfl, Walks.tuple (A := A.in1) hh _ t (Nat.ne_of_lt hlt) (intItems xs), st, fun b hb => ?_, by simpa [intItems] using hsz, CmpOf.ints_gt (numAt xs) (fun _ _ => intItems_at), fun v h' tk hP hk => ?_⟩
  · show b < (s.heap.push _).objs.size
    rw [Heap.size_push]
    rcases List.mem_cons.mp hb with rfl | hb
    · exact Nat.lt_succ_self _
    · rcases List.mem_cons.mp hb with rfl | hb
      · exact Nat.lt_succ_of_lt hlt
      · cases hb
  have hP2 : (intItems xs)[argBest (fun i j => decide (numAt xs i > numAt xs j)) (xs.size - 1)]? = some v := by simpa [intItems] using hP
  obtain ⟨u, rfl⟩ := intItems_at hP2
  obtain ⟨h1, h2⟩ := argBest_gt (numAt xs) (xs.size - 1)
  refine h h' tk _ u (fun b o q => hk b o (fun m => by
        rw [List.mem_singleton.mp m] at q
        exact absurd (Heap.lt_size q) (Nat.lt_irrefl _)) (Heap.get?_push_of_some _ q)) ?_ fun a ha => ?_
  · rw [numAt_eq]
    exact PySem.getD_mem (by rw [List.length_map, Array.length_toList]; omega)
  · obtain ⟨j, hj, rfl⟩ := mem_getD ha
    rw [List.length_map, Array.length_toList] at hj
    rw [← numAt_eq]
    exact h2 j (by omega)
theorem min_tup_raw {prog : Program} {w : World} {A : Around} {E : Value → Shared → Prop} {s : Shared} {t : Addr} {its : List Value} {ns : List Int} {Q : Value → Shared → Prop} (hh : A.handled = none) (ht : s.heap.IsTuple t its.toArray) (hi : IntsAre its ns) (hne : 0 < ns.length)
    (h : ∀ h' tk M t', (∀ b o, s.heap.get? b = some o → h'.get? b = some o) → M ∈ ns → (∀ a, a ∈ ns → M ≤ a) → Q (.int M t') { s with heap := h', toks := tk }) : wpAny (model prog w) A (call (.builtin "min") [.ref t]) Q E s := by
  obtain ⟨xs, e⟩ := hi.allInts.items
  have hn : numsOf (intItems xs).toList = ns := by
    rw [← e]
    exact hi.numsOf
  rw [nums_intItems] at hn
  subst hn
  rw [e] at ht
  have hsz : 0 < xs.size := by simpa using hne
  have hlt : t < s.heap.objs.size := by
    obtain ⟨_, z, _⟩ := ht
    exact Heap.lt_size z
  refine call_min_walk (wpAny_pyIter_tuple ht ?_)
  have st : (s.heap.push { cls := .type "tuple_iterator", data := .fields #[.ref t, .int 0 0] }).IsTupleIter s.heap.objs.size t 0 ∧ (s.heap.push { cls := .type "tuple_iterator", data := .fields #[.ref t, .int 0 0] }).IsTuple t (intItems xs) :=
    ⟨⟨_, Heap.get?_push_size _ rfl, rfl, rfl⟩, ht.at fun o z => Heap.get?_push_of_some _ z⟩
  refine ⟨_, _, _, _, _, _, _, rfl, Walks.tuple (A := A.in1) hh _ t (Nat.ne_of_lt hlt) (intItems xs), st, fun b hb => ?_, by simpa [intItems] using hsz, CmpOf.ints_lt (numAt xs) (fun _ _ => intItems_at), fun v h' tk hP hk => ?_⟩
  · show b < (s.heap.push _).objs.size
    rw [Heap.size_push]
    rcases List.mem_cons.mp hb with rfl | hb
    · exact Nat.lt_succ_self _
    · rcases List.mem_cons.mp hb with rfl | hb
      · exact Nat.lt_succ_of_lt hlt
      · cases hb
  have hP2 : (intItems xs)[argBest (fun i j => decide (numAt xs i < numAt xs j)) (xs.size - 1)]? = some v := by simpa [intItems] using hP
  obtain ⟨u, rfl⟩ := intItems_at hP2
  obtain ⟨h1, h2⟩ := argBest_lt (numAt xs) (xs.size - 1)
  refine h h' tk _ u (fun b o q => hk b o (fun m => by
        rw [List.mem_singleton.mp m] at q
        exact absurd (Heap.lt_size q) (Nat.lt_irrefl _)) (Heap.get?_push_of_some _ q)) ?_ fun a ha => ?_
  · rw [numAt_eq]
    exact PySem.getD_mem (by rw [List.length_map, Array.length_toList]; omega)
  · obtain ⟨j, hj, rfl⟩ := mem_getD ha
    rw [List.length_map, Array.length_toList] at hj
    rw [← numAt_eq]
    exact h2 j (by omega)
variable {X : Cx}
def rMaxT (K : PySem.W.Frag) : List V → Hp → VK → Prop := fun vs H Q => ∃ (a : Addr) (ns : List Int), vs = [V.ref a] ∧ SqT K H a (ns.map V.int) ∧ 0 < ns.length ∧ ∀ m, m ∈ ns → (∀ x, x ∈ ns → x ≤ m) → Q (.int m) H
def rMinT (K : PySem.W.Frag) : List V → Hp → VK → Prop := fun vs H Q => ∃ (a : Addr) (ns : List Int), vs = [V.ref a] ∧ SqT K H a (ns.map V.int) ∧ 0 < ns.length ∧ ∀ m, m ∈ ns → (∀ x, x ∈ ns → m ≤ x) → Q (.int m) H
theorem cr_maxT (hc : X.calm = true) : CallR X (.builtin "max") (rMaxT X.K) := fun pins s σ H xs us Q I r h => by
  obtain ⟨a, ns, rfl, hq, hne, q⟩ := h
  cases r with
  | cons ra rr =>
    cases rr
    cases ra
    obtain ⟨its, rv, ht, hz⟩ := I.tuple hq
    exact max_tup_raw (I.ok.hd hc) ht (intsAre_of rv) hne fun h' tk m t' hk h1 h2 => ⟨.int m, H, I.kept (t' := tk) hk, ⟨_, rfl⟩, q m h1 h2⟩
theorem cr_minT (hc : X.calm = true) : CallR X (.builtin "min") (rMinT X.K) := fun pins s σ H xs us Q I r h => by
  obtain ⟨a, ns, rfl, hq, hne, q⟩ := h
  cases r with
  | cons ra rr =>
    cases rr
    cases ra
    obtain ⟨its, rv, ht, hz⟩ := I.tuple hq
    exact min_tup_raw (I.ok.hd hc) ht (intsAre_of rv) hne fun h' tk m t' hk h1 h2 => ⟨.int m, H, I.kept (t' := tk) hk, ⟨_, rfl⟩, q m h1 h2⟩
def rMn3 : List V → Hp → VK → Prop := fun xs H Q => ∃ i j k, xs = [.int i, .int j, .int k] ∧ Q (.int (min i (min j k))) H
theorem cq_min3 (hc : X.calm = true) : CallR X (.builtin "min") rMn3 := fun pins s σ H xs us Q I r h => by
  obtain ⟨i, j, k, rfl, q⟩ := h
  cases r with
  | cons r1 rr =>
    cases rr with
    | cons r2 rr =>
      cases rr with
      | cons r3 rr =>
        cases rr
        obtain ⟨t1, rfl⟩ := r1
        obtain ⟨t2, rfl⟩ := r2
        obtain ⟨t3, rfl⟩ := r3
        refine min_three_ints (I.ok.hd hc) fun h' tk hk => ⟨.int (min i (min j k)), H, I.kept hk, ?_, q⟩
        by_cases c1 : j < i
        · rw [if_pos c1]
          by_cases c2 : k < j
          · rw [if_pos c2]
            exact ⟨_, by rw [show min i (min j k) = k by omega]⟩
          · rw [if_neg c2]
            exact ⟨_, by rw [show min i (min j k) = j by omega]⟩
        · rw [if_neg c1]
          by_cases c2 : k < i
          · rw [if_pos c2]
            exact ⟨_, by rw [show min i (min j k) = k by omega]⟩
          · rw [if_neg c2]
            exact ⟨_, by rw [show min i (min j k) = i by omega]⟩
theorem r_min3 {H : Hp} {Q : VK} {i j k : Int} (q : Q (.int (min i (min j k))) H) : rMn3 [V.int i, V.int j, V.int k] H Q := ⟨i, j, k, rfl, q⟩
theorem r_maxT {K : PySem.W.Frag} {H : Hp} {Q : VK} {a : Addr} {ns : List Int} (h : SqT K H a (ns.map V.int)) (hne : 0 < ns.length) (q : ∀ m, m ∈ ns → (∀ x, x ∈ ns → x ≤ m) → Q (.int m) H) : rMaxT K [V.ref a] H Q := ⟨a, ns, rfl, h, hne, q⟩
theorem r_minT {K : PySem.W.Frag} {H : Hp} {Q : VK} {a : Addr} {ns : List Int} (h : SqT K H a (ns.map V.int)) (hne : 0 < ns.length) (q : ∀ m, m ∈ ns → (∀ x, x ∈ ns → m ≤ x) → Q (.int m) H) : rMinT K [V.ref a] H Q := ⟨a, ns, rfl, h, hne, q⟩
end
end G57
end
section
set_option maxRecDepth 100000
set_option maxHeartbeats 4000000
namespace G57
open PySem PySem.Spec PyProof.Rows L2
/-! the walk's small steps: "rd" reads on as far as it can -/
local macro_rules | `(tactic| walk_at "fact") => `(tactic| fail)
local macro_rules | `(tactic| walk_at "rd1") => `(tactic| with_reducible first
  | (refine v_id ?_; first | refine r_var_0 ?_ | refine r_var_1 ?_ | refine r_var_2 ?_ | refine r_var_3 ?_ | refine r_var_4 ?_ | refine r_var_5 ?_ | refine r_var_6 ?_ | refine r_var_7 ?_ | refine r_var_8 ?_ | refine r_var_9 ?_ | refine r_var_10 ?_ | refine r_var_11 ?_ | refine r_var_12 ?_ | refine r_var_13 ?_ | refine r_var_14 ?_ | refine r_var_15 ?_ | refine r_var_16 ?_ | refine r_var_17 ?_ | refine r_var_18 ?_ | refine r_var_19 ?_ | refine r_var_20 ?_ | refine r_var_21 ?_ | refine r_var_22 ?_ | refine r_var_23 ?_ | refine r_var_24 ?_ | refine r_var_25 ?_ | refine r_var_26 ?_ | refine r_var_27 ?_ | refine r_var rfl ?_)
  | (refine s_id ?_; first | refine r_set_0 ?_ | refine r_set_1 ?_ | refine r_set_2 ?_ | refine r_set_3 ?_ | refine r_set_4 ?_ | refine r_set_5 ?_ | refine r_set_6 ?_ | refine r_set_7 ?_ | refine r_set_8 ?_ | refine r_set_9 ?_ | refine r_set_10 ?_ | refine r_set_11 ?_ | refine r_set_12 ?_ | refine r_set_13 ?_ | refine r_set_14 ?_ | refine r_set_15 ?_ | refine r_set_16 ?_ | refine r_set_17 ?_ | refine r_set_18 ?_ | refine r_set_19 ?_ | refine r_set_20 ?_ | refine r_set_21 ?_ | refine r_set_22 ?_ | refine r_set_23 ?_ | refine r_set_24 ?_ | refine r_set_25 ?_ | refine r_set_26 ?_ | refine r_set_27 ?_ | refine r_setU ?_)
  | refine r_c ?_
  | refine r_op ?_
  | refine r_I0 ?_
  | refine r_seq ?_
  | refine r_asg ?_
  | refine r_fld ?_
  | refine r_nil ?_
  | refine r_cons ?_
  | refine r_cb ?_
  | refine r_max ?_
  | refine r_min ?_
  | refine r_ret ?_
  | refine r_met ?_
  | refine r_call ?_
  | refine r_B ?_
  | refine r_test ?_
  | refine r_b' ?_
  | refine r_ifS ?_
  | refine r_if ?_
  | refine r_par ?_
  | refine r_par2 ?_
  | refine r_drop ?_
  | refine r_next ?_
  | refine r_make ?_
  | refine r_sfld ?_
  | refine r_int1 ?_
  | refine r_intb ?_
  | refine r_and ?_
  | refine r_or ?_
  | refine r_not ?_
  | refine r_chain ?_
  | refine r_isN ?_
  | refine r_notN ?_
  | refine r_un ?_
  | refine r_U ?_
  | refine r_par3 ?_
  | refine r_par33 ?_
  | refine r_tup ?_
  | refine r_lst ?_
  | refine r_prop ?_
  | refine r_bm ?_
  | refine r_bm0 ?_
  | refine r_andV ?_
  | refine r_orV ?_
  | refine r_notV ?_
  | refine r_asgG ?_
  | refine r_gname ?_
  | refine r_gcons ?_
  | refine r_gnil ?_
  | refine r_rng1 ?_
  | refine r_rng2 ?_
  | refine r_for ?_
  | refine r_lc1 ?_
  | refine r_lc2 ?_
  | refine r_lc3 ?_
  | refine r_lc ?_
  | refine r_while ?_
  | refine r_rev ?_
  | refine r_sl ?_
  | refine r_augS ?_
  | refine r_iL ?_
  | refine r_iT ?_
  | refine r_iE ?_
  | refine r_ipI ?_
  | refine r_aug rfl ?_
  | refine r_cval ?_
  | refine r_turnN ?_
  | refine iT ?_
  | refine iNT ?_
  | refine iNF ?_
  | refine iOF ?_
  | refine iF ?_
  | refine r_part ?_
  | refine r_pi ?_
  | refine r_gsub ?_
  | refine r_noPart ?_)
local macro_rules | `(tactic| walk_at "rd") => `(tactic| (repeat (first | walk_at "rd1" | walk_at "fact")))
local macro_rules | `(tactic| walk_at "plen") => `(tactic| (repeat (first | decide | refine putF_lt ?_)))
local macro_rules | `(tactic| walk_at "rs") => `(tactic| (repeat ((fail_if_success (with_reducible refine r_stop ?_)); (first | walk_at "rd1" | walk_at "fact"))))
def effF (e : Eff) : List (Str × V) := [("shift", .int e.shift), ("low", .int e.low), ("high", .int e.high), ("need", .int e.need), ("room", .int e.room), ("misses", .int e.misses), ("waste", .int e.waste)]
def EffAt (K : PySem.W.Frag) (H : Hp) (a : Addr) (e : Eff) : Prop := ∃ dx, H a = some (.ins (He.ga K "Effect") dx (effF e))
theorem EffAt.mono {K : PySem.W.Frag} {H H' : Hp} {a : Addr} {e : Eff} (h : EffAt K H a e) (s : Same H H') : EffAt K H' a e := let ⟨dx, q⟩ := h; ⟨dx, s _ _ q⟩
theorem lkE_shift (e : Eff) : (effF e).lookup ("shift" : Str) = some (V.int e.shift) := by kernel_rfl
theorem lkE_low (e : Eff) : (effF e).lookup ("low" : Str) = some (V.int e.low) := by kernel_rfl
theorem lkE_high (e : Eff) : (effF e).lookup ("high" : Str) = some (V.int e.high) := by kernel_rfl
theorem lkE_need (e : Eff) : (effF e).lookup ("need" : Str) = some (V.int e.need) := by kernel_rfl
theorem lkE_room (e : Eff) : (effF e).lookup ("room" : Str) = some (V.int e.room) := by kernel_rfl
theorem lkE_misses (e : Eff) : (effF e).lookup ("misses" : Str) = some (V.int e.misses) := by kernel_rfl
theorem lkE_waste (e : Eff) : (effF e).lookup ("waste" : Str) = some (V.int e.waste) := by kernel_rfl
section
variable {K : PySem.W.Frag} {mg : Str → Option Value} (T : Tx K mg) {H : Hp} {a dx : Addr} {e : Eff} {Q : VK} (h : H a = some (.ins (He.ga K "Effect") dx (effF e)))
include T h
theorem fE_shift (q : Q (.int e.shift) H) : FldR K "shift" Q (.ref a) H := r_fldR h (fc_Effect T) (fna_Effect_shift T) (lkE_shift e) q
theorem fE_low (q : Q (.int e.low) H) : FldR K "low" Q (.ref a) H := r_fldR h (fc_Effect T) (fna_Effect_low T) (lkE_low e) q
theorem fE_high (q : Q (.int e.high) H) : FldR K "high" Q (.ref a) H := r_fldR h (fc_Effect T) (fna_Effect_high T) (lkE_high e) q
theorem fE_need (q : Q (.int e.need) H) : FldR K "need" Q (.ref a) H := r_fldR h (fc_Effect T) (fna_Effect_need T) (lkE_need e) q
theorem fE_room (q : Q (.int e.room) H) : FldR K "room" Q (.ref a) H := r_fldR h (fc_Effect T) (fna_Effect_room T) (lkE_room e) q
theorem fE_misses (q : Q (.int e.misses) H) : FldR K "misses" Q (.ref a) H := r_fldR h (fc_Effect T) (fna_Effect_misses T) (lkE_misses e) q
theorem fE_waste (q : Q (.int e.waste) H) : FldR K "waste" Q (.ref a) H := r_fldR h (fc_Effect T) (fna_Effect_waste T) (lkE_waste e) q
end
local macro_rules | `(tactic| walk_at "fact") => `(tactic| with_reducible first | refine fE_shift ‹_› (by assumption) ?_ | refine fE_low ‹_› (by assumption) ?_ | refine fE_high ‹_› (by assumption) ?_ | refine fE_need ‹_› (by assumption) ?_ | refine fE_room ‹_› (by assumption) ?_ | refine fE_misses ‹_› (by assumption) ?_ | refine fE_waste ‹_› (by assumption) ?_)
def spEnd (K : PySem.W.Frag) : Sp := fun vs H Q _ => ∃ a e n, vs = [.ref a, .int n] ∧ EffAt K H a e ∧ Q (.int (e.fin n)) H
def spMis (K : PySem.W.Frag) : Sp := fun vs H Q _ => ∃ a e n, vs = [.ref a, .int n] ∧ EffAt K H a e ∧ Q (.int (e.mis n)) H
def spThr (K : PySem.W.Frag) : Sp := fun vs H Q _ => ∃ a e n, vs = [.ref a, .int n] ∧ EffAt K H a e ∧ Q (.int (e.thr n)) H
theorem ok_Effect_end {P : Program} {w : World} {K : PySem.W.Frag} {mg : Str → Option Value} {base : Heap} (T : Tx K mg) : C8.Met P w K mg base 1 (He.ga K "Effect") "end" (spEnd K) [] := by
  refine met_of (d := d_Effect_end) (C := "Effect") (m := "end") (fn_Effect_end T) rfl rfl (fc_Effect T) (fme_Effect_end T) sc_Effect_end (fun _ _ _ _ _ _ us hl => match us, hl with | [_, _], _ => rfl) (fun vs H Q E h => ?_) (fun cdv A outer s H vs Q E hr h => ?_)
  · obtain ⟨a, e, n, rfl, ⟨dx, hE⟩, k⟩ := h
    rfl
  obtain ⟨a, e, n, rfl, ⟨dx, hE⟩, k⟩ := h
  refine ⟨_, (pss_one (ps_ret (pe_callB (cq_min2 rfl) (by rfl) (fn_min T) bb_min (pa_cons (pe_callB (cq_max2 rfl) (by rfl) (fn_max T) bb_max (pa_cons (pe_op op_add (pv 1) (pe_fld (pv 0) rfl)) (pa_cons (pe_fld (pv 0) rfl) pa_nil))) (pa_cons (pe_fld (pv 0) rfl) pa_nil))))), ?_⟩
  try dsimp only [cxOf, Cx.nox, Cx.wish]
  repeat rw [st_cons]
  repeat rw [st_none]
  try rw [st_nn]
  walk_at "rd"
  exact k
theorem ok_Effect_missed {P : Program} {w : World} {K : PySem.W.Frag} {mg : Str → Option Value} {base : Heap} (T : Tx K mg) : C8.Met P w K mg base 1 (He.ga K "Effect") "missed" (spMis K) [] := by
  refine met_of (d := d_Effect_missed) (C := "Effect") (m := "missed") (fn_Effect_missed T) rfl rfl (fc_Effect T) (fme_Effect_missed T) sc_Effect_missed (fun _ _ _ _ _ _ us hl => match us, hl with | [_, _], _ => rfl) (fun vs H Q E h => ?_) (fun cdv A outer s H vs Q E hr h => ?_)
  · obtain ⟨a, e, n, rfl, ⟨dx, hE⟩, k⟩ := h
    rfl
  obtain ⟨a, e, n, rfl, ⟨dx, hE⟩, k⟩ := h
  refine ⟨_, (pss_one (ps_ret (pe_op op_add (pe_fld (pv 0) rfl) (pe_callB (cq_max2 rfl) (by rfl) (fn_max T) bb_max (pa_cons pe_int (pa_cons (pe_op op_sub (pe_fld (pv 0) rfl) (pv 1)) pa_nil)))))), ?_⟩
  try dsimp only [cxOf, Cx.nox, Cx.wish]
  repeat rw [st_cons]
  repeat rw [st_none]
  try rw [st_nn]
  walk_at "rd"
  exact k
theorem ok_Effect_thrown {P : Program} {w : World} {K : PySem.W.Frag} {mg : Str → Option Value} {base : Heap} (T : Tx K mg) : C8.Met P w K mg base 1 (He.ga K "Effect") "thrown" (spThr K) [] := by
  refine met_of (d := d_Effect_thrown) (C := "Effect") (m := "thrown") (fn_Effect_thrown T) rfl rfl (fc_Effect T) (fme_Effect_thrown T) sc_Effect_thrown (fun _ _ _ _ _ _ us hl => match us, hl with | [_, _], _ => rfl) (fun vs H Q E h => ?_) (fun cdv A outer s H vs Q E hr h => ?_)
  · obtain ⟨a, e, n, rfl, ⟨dx, hE⟩, k⟩ := h
    rfl
  obtain ⟨a, e, n, rfl, ⟨dx, hE⟩, k⟩ := h
  refine ⟨_, (pss_one (ps_ret (pe_op op_add (pe_fld (pv 0) rfl) (pe_callB (cq_max2 rfl) (by rfl) (fn_max T) bb_max (pa_cons pe_int (pa_cons (pe_op op_sub (pv 1) (pe_fld (pv 0) rfl)) pa_nil)))))), ?_⟩
  try dsimp only [cxOf, Cx.nox, Cx.wish]
  repeat rw [st_cons]
  repeat rw [st_none]
  try rw [st_nn]
  walk_at "rd"
  exact k
/-- what a new Effect leaves -/
def spEffInit (K : PySem.W.Frag) : Sp := fun vs H Q _ => ∃ (p dx : Addr) (e : Eff), vs = [.ref p, .int e.shift, .int e.low, .int e.high, .int e.need, .int e.room, .int e.misses, .int e.waste] ∧ H p = some (.ins (He.ga K "Effect") dx []) ∧ Q .non (upd H p (.ins (He.ga K "Effect") dx (effF e)))
theorem effF_put (e : Eff) : putF "waste" (.int e.waste) (putF "misses" (.int e.misses) (putF "room" (.int e.room) (putF "need" (.int e.need) (putF "high" (.int e.high) (putF "low" (.int e.low) (putF "shift" (.int e.shift) [])))))) = effF e := by kernel_rfl
theorem ok_Effect_init {P : Program} {w : World} {K : PySem.W.Frag} {mg : Str → Option Value} {base : Heap} (T : Tx K mg) : C8.Mak P w K mg base 1 "Effect" (He.ga K "Effect") (spEffInit K) [] := by
  refine mak_of (d := d_Effect_init) (C := "Effect") (fn_Effect_init T) rfl rfl (fg_Effect T) (fmk_Effect T) sc_Effect_init (fun _ _ _ _ _ _ us hl => match us, hl with | [_, _, _, _, _, _, _, _], _ => rfl) (fun vs H Q E h => ?_) (fun cdv A outer s H vs Q E hr h => ?_)
  · obtain ⟨p, dx, e, rfl, hp, k⟩ := h
    rfl
  obtain ⟨p, dx, e, rfl, hp, k⟩ := h
  refine ⟨_, (pss_cons (ps_fld (pv 0) (pv 1) rfl)
      (pss_cons (ps_fld (pv 0) (pv 2) rfl)
      (pss_cons (ps_fld (pv 0) (pv 3) rfl)
      (pss_cons (ps_fld (pv 0) (pv 4) rfl)
      (pss_cons (ps_fld (pv 0) (pv 5) rfl)
      (pss_cons (ps_fld (pv 0) (pv 6) rfl)
      (pss_one (ps_fld (pv 0) (pv 7) rfl)))))))), ?_⟩
  try dsimp only [cxOf, Cx.nox, Cx.wish]
  repeat rw [st_cons]
  repeat rw [st_none]
  try rw [st_nn]
  walk_at "rd"
  refine r_sfldR hp (fc_Effect T) (fna_Effect_shift T) (by decide) ?_
  walk_at "rd"
  refine r_sfldU (fc_Effect T) (fna_Effect_low T) (by walk_at "plen") ?_
  walk_at "rd"
  refine r_sfldU (fc_Effect T) (fna_Effect_high T) (by walk_at "plen") ?_
  walk_at "rd"
  refine r_sfldU (fc_Effect T) (fna_Effect_need T) (by walk_at "plen") ?_
  walk_at "rd"
  refine r_sfldU (fc_Effect T) (fna_Effect_room T) (by walk_at "plen") ?_
  walk_at "rd"
  refine r_sfldU (fc_Effect T) (fna_Effect_misses T) (by walk_at "plen") ?_
  walk_at "rd"
  refine r_sfldU (fc_Effect T) (fna_Effect_waste T) (by walk_at "plen") ?_
  rw [effF_put]
  exact k
/-- a new Effect, for a caller -/
theorem use_Effect {K : PySem.W.Frag} {H : Hp} {Q : VK} {E : XK} (e : Eff) (q : ∀ p H', Same H H' → EffAt K H' p e → Q (.ref p) H') : MakR (He.ga K "Effect") (spEffInit K) E Q [.int e.shift, .int e.low, .int e.high, .int e.need, .int e.room, .int e.misses, .int e.waste] H := by
  intro x dx hx hd ne
  refine ⟨x, dx, e, rfl, upd_same, rfl, ?_⟩
  refine q x _ (fun b o hb => ?_) ⟨dx, upd_same⟩
  rw [upd_ne (ne_of_none hb hx), upd_ne (ne_of_none hb hx), upd_ne (ne_of_none hb hd)]
  exact hb
theorem use_end {K : PySem.W.Frag} {H : Hp} {Q : VK} {E : XK} {a dx : Addr} {e : Eff} {n : Int} (h : H a = some (.ins (He.ga K "Effect") dx (effF e))) (q : Q (.int (e.fin n)) H) : spEnd K [.ref a, .int n] H Q E := ⟨a, e, n, rfl, ⟨dx, h⟩, q⟩
theorem use_mis {K : PySem.W.Frag} {H : Hp} {Q : VK} {E : XK} {a dx : Addr} {e : Eff} {n : Int} (h : H a = some (.ins (He.ga K "Effect") dx (effF e))) (q : Q (.int (e.mis n)) H) : spMis K [.ref a, .int n] H Q E := ⟨a, e, n, rfl, ⟨dx, h⟩, q⟩
theorem use_thr {K : PySem.W.Frag} {H : Hp} {Q : VK} {E : XK} {a dx : Addr} {e : Eff} {n : Int} (h : H a = some (.ins (He.ga K "Effect") dx (effF e))) (q : Q (.int (e.thr n)) H) : spThr K [.ref a, .int n] H Q E := ⟨a, e, n, rfl, ⟨dx, h⟩, q⟩
theorem mE {K : PySem.W.Frag} {σ : L2.St} {H : Hp} {Q : VK} {m : Str} {sp : Sp} {E : XK} {t : TA} {a dx : Addr} {e : Eff} (h : H a = some (.ins (He.ga K "Effect") dx (effF e))) (l : (effF e).lookup m = none) (q : t σ H fun vs H2 => sp (.ref a :: vs) H2 Q E) : MetR (He.ga K "Effect") m sp [] E t σ Q (.ref a) H := r_metR h l q
theorem mlk_end (e : Eff) : (effF e).lookup ("end" : Str) = none := by kernel_rfl
theorem mlk_missed (e : Eff) : (effF e).lookup ("missed" : Str) = none := by kernel_rfl
theorem mlk_thrown (e : Eff) : (effF e).lookup ("thrown" : Str) = none := by kernel_rfl
theorem mlk_followed (e : Eff) : (effF e).lookup ("followed" : Str) = none := by kernel_rfl
local macro_rules | `(tactic| walk_at "fact") => `(tactic| with_reducible first
  | refine mE (by assumption) (mlk_end _) ?_
  | refine mE (by assumption) (mlk_missed _) ?_
  | refine mE (by assumption) (mlk_thrown _) ?_
  | refine mE (by assumption) (mlk_followed _) ?_
  | refine use_end (by assumption) ?_
  | refine use_mis (by assumption) ?_
  | refine use_thr (by assumption) ?_)
def spFol (K : PySem.W.Frag) : Sp := fun vs H Q _ => ∃ a b f g, vs = [.ref a, .ref b] ∧ EffAt K H a f ∧ EffAt K H b g ∧ ∀ p H', Same H H' → EffAt K H' p (f.seq g) → Q (.ref p) H'
theorem ok_Effect_followed {P : Program} {w : World} {K : PySem.W.Frag} {mg : Str → Option Value} {base : Heap} (T : Tx K mg) : C8.Met P w K mg base 3 (He.ga K "Effect") "followed" (spFol K) [] := by
  have G_Effect_end := ok_Effect_end (P := P) (w := w) (base := base) T
  have G_Effect_missed := ok_Effect_missed (P := P) (w := w) (base := base) T
  have G_Effect_thrown := ok_Effect_thrown (P := P) (w := w) (base := base) T
  have G_Effect := ok_Effect_init (P := P) (w := w) (base := base) T
  refine met_of (d := d_Effect_followed) (C := "Effect") (m := "followed") (fn_Effect_followed T) rfl rfl (fc_Effect T) (fme_Effect_followed T) sc_Effect_followed (fun _ _ _ _ _ _ us hl => match us, hl with | [_, _], _ => rfl) (fun vs H Q E h => ?_) (fun cdv A outer s H vs Q E hr h => ?_)
  · obtain ⟨a, b, f, g, rfl, ⟨da, hA⟩, ⟨db, hB⟩, k⟩ := h
    rfl
  obtain ⟨a, b, f, g, rfl, ⟨da, hA⟩, ⟨db, hB⟩, k⟩ := h
  refine ⟨_, (pss_cons (ps_par (i := 2) (j := 3) (by rfl) sc_Effect_followed.nd rfl rfl (by decide) rfl rfl (pa_cons (C8.pe_mt G_Effect_end hr (by decide) (pv 1) (pa_cons (pe_fld (pv 0) rfl) pa_nil)) (pa_cons (C8.pe_mt G_Effect_end hr (by decide) (pv 1) (pa_cons (pe_fld (pv 0) rfl) pa_nil)) pa_nil)) (by rfl))
      (pss_cons (ps_set (i := 4) sc_Effect_followed.nd rfl (Or.inl rfl) (pe_callB (cq_min2 rfl) (by rfl) (fn_min T) bb_min (pa_cons (pe_callB (cq_max2 rfl) (by rfl) (fn_max T) bb_max (pa_cons (pe_fld (pv 1) rfl) (pa_cons (pe_fld (pv 0) rfl) pa_nil))) (pa_cons (pe_fld (pv 0) rfl) pa_nil))))
      (pss_cons (ps_set (i := 5) sc_Effect_followed.nd rfl (Or.inl rfl) (pe_callB (cq_min2 rfl) (by rfl) (fn_min T) bb_min (pa_cons (pe_callB (cq_max2 rfl) (by rfl) (fn_max T) bb_max (pa_cons (pe_fld (pv 1) rfl) (pa_cons (pe_fld (pv 0) rfl) pa_nil))) (pa_cons (pe_fld (pv 0) rfl) pa_nil))))
      (pss_cons (ps_set (i := 6) sc_Effect_followed.nd rfl (Or.inl rfl) (pe_op op_add (pe_op op_add (pe_fld (pv 0) rfl) (pe_fld (pv 1) rfl)) (pe_callB (cq_max2 rfl) (by rfl) (fn_max T) bb_max (pa_cons pe_int (pa_cons (pe_op op_sub (pe_fld (pv 1) rfl) (pe_fld (pv 0) rfl)) pa_nil)))))
      (pss_cons (ps_set (i := 7) sc_Effect_followed.nd rfl (Or.inl rfl) (pe_op op_add (pe_op op_add (pe_fld (pv 0) rfl) (pe_fld (pv 1) rfl)) (pe_callB (cq_max2 rfl) (by rfl) (fn_max T) bb_max (pa_cons pe_int (pa_cons (pe_op op_sub (pe_fld (pv 0) rfl) (pe_fld (pv 1) rfl)) pa_nil)))))
      (pss_cons (ps_if (pt_cmpR op_eqI (pe_fld (pv 0) rfl) (pe_fld (pv 0) rfl) (nomark _)) (pss_cons (ps_par (i := 4) (j := 5) (by rfl) sc_Effect_followed.nd rfl rfl (by decide) rfl rfl (pa_cons (pe_fld (pv 0) rfl) (pa_cons (pe_fld (pv 0) rfl) pa_nil)) (by rfl))
      (pss_cons (ps_set (i := 6) sc_Effect_followed.nd rfl (Or.inl rfl) (pe_op op_add (pe_fld (pv 0) rfl) (C8.pe_mt G_Effect_missed hr (by decide) (pv 1) (pa_cons (pe_fld (pv 0) rfl) pa_nil))))
      (pss_one (ps_set (i := 7) sc_Effect_followed.nd rfl (Or.inl rfl) (pe_op op_add (pe_fld (pv 0) rfl) (C8.pe_mt G_Effect_thrown hr (by decide) (pv 1) (pa_cons (pe_fld (pv 0) rfl) pa_nil))))))) (pss_one (ps_par (i := 4) (j := 5) (by rfl) sc_Effect_followed.nd rfl rfl (by decide) rfl rfl (pa_cons (pe_op op_sub (pv 4) (pe_fld (pv 0) rfl)) (pa_cons (pe_op op_sub (pv 5) (pe_fld (pv 0) rfl)) pa_nil)) (by rfl))))
      (pss_one (ps_ret (C8.pe_mk G_Effect hr (by decide) (by rfl) (pa_cons (pe_op op_add (pe_fld (pv 0) rfl) (pe_fld (pv 1) rfl)) (pa_cons (pv 2) (pa_cons (pv 3) (pa_cons (pv 4) (pa_cons (pv 5) (pa_cons (pv 6) (pa_cons (pv 7) pa_nil)))))))))))))))), ?_⟩
  try dsimp only [cxOf, Cx.nox, Cx.wish]
  repeat rw [st_cons]
  repeat rw [st_none]
  try rw [st_nn]
  walk_at "rd"
  refine i2 (fun c => ?_) (fun c => ?_)
  · walk_at "rd"
    refine use_Effect ⟨_, _, _, _, _, _, _⟩ fun p H' s h => k p H' s ?_
    have e : f.seq g = _ := if_pos c
    rw [e]
    exact h
  · walk_at "rd"
    refine use_Effect ⟨_, _, _, _, _, _, _⟩ fun p H' s h => k p H' s ?_
    have e : f.seq g = _ := if_neg c
    rw [e]
    exact h
def spDay (K : PySem.W.Frag) : Sp := fun vs H Q _ => ∃ b c n : Int, vs = [.int b, .int c, .int n] ∧ ∀ p H', Same H H' → EffAt K H' p (dayE b c n) → Q (.ref p) H'
theorem ok_day_effect {P : Program} {w : World} {K : PySem.W.Frag} {mg : Str → Option Value} {base : Heap} (T : Tx K mg) : C8.Cal P w K mg base 3 "day_effect" (spDay K) [] := by
  have G_Effect := ok_Effect_init (P := P) (w := w) (base := base) T
  refine cal_of (d := d_day_effect) (x := "day_effect") (fn_day_effect T) rfl rfl (fg_day_effect T) sc_day_effect (fun _ _ _ _ _ _ us hl => match us, hl with | [_, _, _], _ => rfl) (fun vs H Q E h => ?_) (fun cdv A outer s H vs Q E hr h => ?_)
  · obtain ⟨b, c, n, rfl, k⟩ := h
    rfl
  obtain ⟨b, c, n, rfl, k⟩ := h
  refine ⟨_, (pss_cons (ps_set (i := 3) sc_day_effect.nd rfl (Or.inl rfl) (pe_op op_sub (pv 0) (pv 1)))
      (pss_one (ps_ret (C8.pe_mk G_Effect hr (by decide) (by rfl) (pa_cons (pv 3) (pa_cons pe_int (pa_cons (pv 2) (pa_cons (pe_op op_sub pe_int (pv 3)) (pa_cons (pe_op op_sub (pv 2) (pv 3)) (pa_cons pe_int (pa_cons pe_int pa_nil))))))))))), ?_⟩
  try dsimp only [cxOf, Cx.nox, Cx.wish]
  repeat rw [st_cons]
  repeat rw [st_none]
  try rw [st_nn]
  walk_at "rd"
  exact use_Effect (dayE b c n) k

end G57
end
section
set_option maxRecDepth 100000
set_option maxHeartbeats 4000000
namespace G57
open PySem PySem.Spec PyProof.Rows L2
/-! the walk's small steps: "rd" reads on as far as it can -/
local macro_rules | `(tactic| walk_at "fact") => `(tactic| fail)
local macro_rules | `(tactic| walk_at "rd1") => `(tactic| with_reducible first
  | (refine v_id ?_; first | refine r_var_0 ?_ | refine r_var_1 ?_ | refine r_var_2 ?_ | refine r_var_3 ?_ | refine r_var_4 ?_ | refine r_var_5 ?_ | refine r_var_6 ?_ | refine r_var_7 ?_ | refine r_var_8 ?_ | refine r_var_9 ?_ | refine r_var_10 ?_ | refine r_var_11 ?_ | refine r_var_12 ?_ | refine r_var_13 ?_ | refine r_var_14 ?_ | refine r_var_15 ?_ | refine r_var_16 ?_ | refine r_var_17 ?_ | refine r_var_18 ?_ | refine r_var_19 ?_ | refine r_var_20 ?_ | refine r_var_21 ?_ | refine r_var_22 ?_ | refine r_var_23 ?_ | refine r_var_24 ?_ | refine r_var_25 ?_ | refine r_var_26 ?_ | refine r_var_27 ?_ | refine r_var rfl ?_)
  | (refine s_id ?_; first | refine r_set_0 ?_ | refine r_set_1 ?_ | refine r_set_2 ?_ | refine r_set_3 ?_ | refine r_set_4 ?_ | refine r_set_5 ?_ | refine r_set_6 ?_ | refine r_set_7 ?_ | refine r_set_8 ?_ | refine r_set_9 ?_ | refine r_set_10 ?_ | refine r_set_11 ?_ | refine r_set_12 ?_ | refine r_set_13 ?_ | refine r_set_14 ?_ | refine r_set_15 ?_ | refine r_set_16 ?_ | refine r_set_17 ?_ | refine r_set_18 ?_ | refine r_set_19 ?_ | refine r_set_20 ?_ | refine r_set_21 ?_ | refine r_set_22 ?_ | refine r_set_23 ?_ | refine r_set_24 ?_ | refine r_set_25 ?_ | refine r_set_26 ?_ | refine r_set_27 ?_ | refine r_setU ?_)
  | refine r_c ?_
  | refine r_op ?_
  | refine r_I0 ?_
  | refine r_seq ?_
  | refine r_asg ?_
  | refine r_fld ?_
  | refine r_nil ?_
  | refine r_cons ?_
  | refine r_cb ?_
  | refine r_max ?_
  | refine r_min ?_
  | refine r_ret ?_
  | refine r_met ?_
  | refine r_call ?_
  | refine r_B ?_
  | refine r_test ?_
  | refine r_b' ?_
  | refine r_ifS ?_
  | refine r_if ?_
  | refine r_par ?_
  | refine r_par2 ?_
  | refine r_drop ?_
  | refine r_next ?_
  | refine r_make ?_
  | refine r_sfld ?_
  | refine r_int1 ?_
  | refine r_intb ?_
  | refine r_and ?_
  | refine r_or ?_
  | refine r_not ?_
  | refine r_chain ?_
  | refine r_isN ?_
  | refine r_notN ?_
  | refine r_un ?_
  | refine r_U ?_
  | refine r_par3 ?_
  | refine r_par33 ?_
  | refine r_tup ?_
  | refine r_lst ?_
  | refine r_prop ?_
  | refine r_bm ?_
  | refine r_bm0 ?_
  | refine r_andV ?_
  | refine r_orV ?_
  | refine r_notV ?_
  | refine r_asgG ?_
  | refine r_gname ?_
  | refine r_gcons ?_
  | refine r_gnil ?_
  | refine r_rng1 ?_
  | refine r_rng2 ?_
  | refine r_for ?_
  | refine r_lc1 ?_
  | refine r_lc2 ?_
  | refine r_lc3 ?_
  | refine r_lc ?_
  | refine r_while ?_
  | refine r_rev ?_
  | refine r_sl ?_
  | refine r_augS ?_
  | refine r_iL ?_
  | refine r_iT ?_
  | refine r_iE ?_
  | refine r_ipI ?_
  | refine r_aug rfl ?_
  | refine r_cval ?_
  | refine r_turnN ?_
  | refine iT ?_
  | refine iNT ?_
  | refine iNF ?_
  | refine iOF ?_
  | refine iF ?_
  | refine r_part ?_
  | refine r_pi ?_
  | refine r_gsub ?_
  | refine r_noPart ?_)
local macro_rules | `(tactic| walk_at "rd") => `(tactic| (repeat (first | walk_at "rd1" | walk_at "fact")))
local macro_rules | `(tactic| walk_at "plen") => `(tactic| (repeat (first | decide | refine putF_lt ?_)))
local macro_rules | `(tactic| walk_at "rs") => `(tactic| (repeat ((fail_if_success (with_reducible refine r_stop ?_)); (first | walk_at "rd1" | walk_at "fact"))))
theorem Stab.eff {K : PySem.W.Frag} {a : Addr} {e : Eff} : Stab fun H => EffAt K H a e := Stab.ex fun _ => Stab.ins
theorem use_fol {K : PySem.W.Frag} {H : Hp} {Q : VK} {E : XK} {a b da db : Addr} {f g : Eff} (h : H a = some (.ins (He.ga K "Effect") da (effF f))) (h2 : H b = some (.ins (He.ga K "Effect") db (effF g))) (q : ∀ p H', Same H H' → EffAt K H' p (f.seq g) → Q (.ref p) H') : spFol K [.ref a, .ref b] H Q E := ⟨a, b, f, g, rfl, ⟨da, h⟩, ⟨db, h2⟩, q⟩
/-- what holds a found power, or None -/
def OptP (K : PySem.W.Frag) (H : Hp) (e : Eff) (n : Nat) (v : V) : Prop := (v = .non ∧ n = 0) ∨ ∃ p f, v = .ref p ∧ EffAt K H p f ∧ IsPow e n f
theorem OptP.mono {K : PySem.W.Frag} {H H' : Hp} {v : V} {e : Eff} {n : Nat} (h : OptP K H e n v) (s : Same H H') : OptP K H' e n v := by
  rcases h with h | ⟨p, f, z, q, r⟩
  · exact .inl h
  · exact .inr ⟨p, f, z, q.mono s, r⟩
local macro_rules | `(tactic| walk_at "fact") => `(tactic| with_reducible first
  | refine mE (by assumption) (mlk_end _) ?_
  | refine mE (by assumption) (mlk_missed _) ?_
  | refine mE (by assumption) (mlk_thrown _) ?_
  | refine mE (by assumption) (mlk_followed _) ?_
  | refine use_end (by assumption) ?_
  | refine use_mis (by assumption) ?_
  | refine use_thr (by assumption) ?_
  | refine use_fol (by assumption) (by assumption) ?_)
def spPow (K : PySem.W.Frag) : Sp := fun vs H Q _ => ∃ (a : Addr) (e : Eff) (t : Int), vs = [.ref a, .int t] ∧ EffAt K H a e ∧ 0 < t ∧ e.Ok ∧ ∀ p g H', Same H H' → EffAt K H' p g → IsPow e t.toNat g → Q (.ref p) H'
theorem ok_power {P : Program} {w : World} {K : PySem.W.Frag} {mg : Str → Option Value} {base : Heap} (T : Tx K mg) : C8.Cal P w K mg base 4 "power" (spPow K) [] := by
  have G_Effect_followed := ok_Effect_followed (P := P) (w := w) (base := base) T
  refine cal_of (d := d_power) (x := "power") (fn_power T) rfl rfl (fg_power T) sc_power (fun _ _ _ _ _ _ us hl => match us, hl with | [_, _], _ => rfl) (fun vs H Q E h => ?_) (fun cdv A outer s H vs Q E hr h => ?_)
  · obtain ⟨a, e, t0, rfl, hE, ht, he, k⟩ := h
    rfl
  obtain ⟨a, e, t0, rfl, hE, ht, he, k⟩ := h
  refine ⟨_, (pss_cons (ps_par (i := 2) (j := 3) (by rfl) sc_power.nd rfl rfl (by decide) rfl rfl (pa_cons pe_non (pa_cons (pv 0) pa_nil)) (by rfl))
      (pss_cons (ps_while PassesOwn.never (pt_cmpR op_gt (pv 1) pe_int (nomark _)) (pss_cons (ps_if (pt_cmpR op_eqI (pe_op op_mod (pe_callTy cq_int (by rfl) (fn_int T) bb_int (pa_cons (pv 1) pa_nil)) pe_int) pe_int (nomark _)) (pss_one (ps_set (i := 2) sc_power.nd rfl (Or.inl rfl) (pe_ifExp (pt_cmp (pc_isN (pv 2))) (pv 3) (C8.pe_mt G_Effect_followed hr (by decide) (pv 2) (pa_cons (pv 3) pa_nil))))) pss_nil)
      (pss_cons (ps_set (i := 3) sc_power.nd rfl (Or.inl rfl) (C8.pe_mt G_Effect_followed hr (by decide) (pv 3) (pa_cons (pv 3) pa_nil)))
      (pss_one (ps_set (i := 1) sc_power.nd rfl (Or.inl rfl) (pe_op op_fdiv (pv 1) pe_int))))))
      (pss_one (ps_ret (pv 2))))), ?_⟩
  try dsimp only [cxOf, Cx.nox, Cx.wish]
  repeat rw [st_cons]
  repeat rw [st_none]
  try rw [st_nn]
  walk_at "rd"
  refine ⟨fun m σ H' => ∃ (t : Int) (w r : Nat) (v : V) (b : Addr) (s : Eff), σ = [some (.ref a), some (.int t), some v, some (.ref b)] ∧ 0 ≤ t ∧ m = t.toNat ∧ Same H H' ∧ EffAt K H' b s ∧ IsPow e w s ∧ OptP K H' e r v ∧ t.toNat * w + r = t0.toNat, ⟨_, t0, 1, 0, .non, a, e, rfl, Int.le_of_lt ht, rfl, sameR, hE, isPow_one he, .inl ⟨rfl, rfl⟩, by omega⟩, ?_⟩
  rintro m σ H' ⟨t, w, r, v, b, s, rfl, ht, rfl, sm, ⟨db, hb⟩, hs, hv, hg⟩
  walk_at "rd"
  refine i2 (fun c => ?_) (fun c => ?_)
  · refine r_turn ?_
    walk_at "rd"
    refine r_I (by decide) ?_
    walk_at "rd"
    have sq : ∀ (v' : V) (r' : Nat) (H2 : Hp), Same H' H2 → OptP K H2 e r' v' → (t / 2).toNat * (w + w) + r' = t0.toNat → ∀ p H3, Same H2 H3 → EffAt K H3 p (s.seq s) →
      ∃ m', m' < t.toNat ∧ ∃ (t' : Int) (w r : Nat) (v : V) (b : Addr) (s' : Eff), [some (V.ref a), some (.int (t / 2)), some v', some (.ref p)] = [some (.ref a), some (.int t'), some v, some (.ref b)] ∧ 0 ≤ t' ∧ m' = t'.toNat ∧ Same H H3 ∧ EffAt K H3 b s' ∧ IsPow e w s' ∧ OptP K H3 e r v ∧ t'.toNat * w + r = t0.toNat :=
      fun v' r' H2 s2 o z p H3 s3 h3 => ⟨_, by omega, t / 2, w + w, r', v', p, _, rfl, by omega, rfl, sameT (sameT sm s2) s3, h3, hs.seq hs, o.mono s3, z⟩
    refine i2 (fun c2 => ?_) (fun c2 => ?_)
    · walk_at "rd"
      rcases hv with ⟨rfl, rfl⟩ | ⟨p, f, rfl, ⟨dp, hp⟩, hf⟩
      · refine iY rfl ?_
        walk_at "rd"
        refine fun p H3 s3 h3 => ?_
        walk_at "rd"
        refine r_I ⟨by decide, by decide⟩ ?_
        walk_at "rd"
        refine sq (.ref b) w H' sameR (.inr ⟨b, s, rfl, ⟨db, hb⟩, hs⟩) ?_ p H3 s3 h3
        have e1 : t.toNat = 2 * (t / 2).toNat + 1 := by omega
        rw [e1, Nat.add_zero] at hg
        rw [← hg, Nat.add_mul, Nat.mul_add, Nat.one_mul, Nat.mul_comm 2, Nat.mul_assoc, Nat.two_mul, Nat.mul_add]
      · refine iN (by intro z; cases z) ?_
        walk_at "rd"
        refine fun q H2 s2 h2 => ?_
        have hb2 := s2 _ _ hb
        walk_at "rd"
        refine fun p' H3 s3 h3 => ?_
        walk_at "rd"
        refine r_I ⟨by decide, by decide⟩ ?_
        walk_at "rd"
        refine sq (.ref q) (r + w) H2 s2 (.inr ⟨q, _, rfl, h2, hf.seq hs⟩) ?_ p' H3 s3 h3
        have e1 : t.toNat = 2 * (t / 2).toNat + 1 := by omega
        rw [e1] at hg
        rw [← hg, Nat.add_mul, Nat.mul_add, Nat.one_mul, Nat.mul_comm 2, Nat.mul_assoc, Nat.two_mul, Nat.mul_add]
        omega
    · walk_at "rd"
      refine fun p' H3 s3 h3 => ?_
      walk_at "rd"
      refine r_I ⟨by decide, by decide⟩ ?_
      walk_at "rd"
      refine sq v r H' sameR hv ?_ p' H3 s3 h3
      have e1 : t.toNat = 2 * (t / 2).toNat := by omega
      rw [e1] at hg
      rw [← hg, Nat.mul_add, Nat.mul_comm 2, Nat.mul_assoc, Nat.two_mul, Nat.mul_add]
  · have e0 : t = 0 := by omega
    subst e0
    rcases hv with ⟨rfl, rfl⟩ | ⟨p, f, rfl, hp, hf⟩
    · simp at hg
      omega
    · walk_at "rd"
      refine k p f H' sm hp ?_
      have z : r = t0.toNat := by simpa using hg
      rw [← z]
      exact hf
theorem use_pow {K : PySem.W.Frag} {H : Hp} {Q : VK} {E : XK} {a da : Addr} {e : Eff} {t : Int} (h : H a = some (.ins (He.ga K "Effect") da (effF e))) (ht : 0 < t) (he : e.Ok) (q : ∀ p g H', Same H H' → EffAt K H' p g → IsPow e t.toNat g → Q (.ref p) H') : spPow K [.ref a, .int t] H Q E := ⟨a, e, t, rfl, ⟨da, h⟩, ht, he, q⟩

end G57
end
section
set_option maxRecDepth 100000
set_option maxHeartbeats 4000000
namespace G57
open PySem PySem.Spec PyProof.Rows L2
/-! the walk's small steps: "rd" reads on as far as it can -/
local macro_rules | `(tactic| walk_at "fact") => `(tactic| fail)
local macro_rules | `(tactic| walk_at "rd1") => `(tactic| with_reducible first
  | (refine v_id ?_; first | refine r_var_0 ?_ | refine r_var_1 ?_ | refine r_var_2 ?_ | refine r_var_3 ?_ | refine r_var_4 ?_ | refine r_var_5 ?_ | refine r_var_6 ?_ | refine r_var_7 ?_ | refine r_var_8 ?_ | refine r_var_9 ?_ | refine r_var_10 ?_ | refine r_var_11 ?_ | refine r_var_12 ?_ | refine r_var_13 ?_ | refine r_var_14 ?_ | refine r_var_15 ?_ | refine r_var_16 ?_ | refine r_var_17 ?_ | refine r_var_18 ?_ | refine r_var_19 ?_ | refine r_var_20 ?_ | refine r_var_21 ?_ | refine r_var_22 ?_ | refine r_var_23 ?_ | refine r_var_24 ?_ | refine r_var_25 ?_ | refine r_var_26 ?_ | refine r_var_27 ?_ | refine r_var rfl ?_)
  | (refine s_id ?_; first | refine r_set_0 ?_ | refine r_set_1 ?_ | refine r_set_2 ?_ | refine r_set_3 ?_ | refine r_set_4 ?_ | refine r_set_5 ?_ | refine r_set_6 ?_ | refine r_set_7 ?_ | refine r_set_8 ?_ | refine r_set_9 ?_ | refine r_set_10 ?_ | refine r_set_11 ?_ | refine r_set_12 ?_ | refine r_set_13 ?_ | refine r_set_14 ?_ | refine r_set_15 ?_ | refine r_set_16 ?_ | refine r_set_17 ?_ | refine r_set_18 ?_ | refine r_set_19 ?_ | refine r_set_20 ?_ | refine r_set_21 ?_ | refine r_set_22 ?_ | refine r_set_23 ?_ | refine r_set_24 ?_ | refine r_set_25 ?_ | refine r_set_26 ?_ | refine r_set_27 ?_ | refine r_setU ?_)
  | refine r_c ?_
  | refine r_op ?_
  | refine r_I0 ?_
  | refine r_seq ?_
  | refine r_asg ?_
  | refine r_fld ?_
  | refine r_nil ?_
  | refine r_cons ?_
  | refine r_cb ?_
  | refine r_max ?_
  | refine r_min ?_
  | refine r_ret ?_
  | refine r_met ?_
  | refine r_call ?_
  | refine r_B ?_
  | refine r_test ?_
  | refine r_b' ?_
  | refine r_ifS ?_
  | refine r_if ?_
  | refine r_par ?_
  | refine r_par2 ?_
  | refine r_drop ?_
  | refine r_next ?_
  | refine r_make ?_
  | refine r_sfld ?_
  | refine r_int1 ?_
  | refine r_intb ?_
  | refine r_and ?_
  | refine r_or ?_
  | refine r_not ?_
  | refine r_chain ?_
  | refine r_isN ?_
  | refine r_notN ?_
  | refine r_un ?_
  | refine r_U ?_
  | refine r_par3 ?_
  | refine r_par33 ?_
  | refine r_tup ?_
  | refine r_lst ?_
  | refine r_prop ?_
  | refine r_bm ?_
  | refine r_bm0 ?_
  | refine r_andV ?_
  | refine r_orV ?_
  | refine r_notV ?_
  | refine r_asgG ?_
  | refine r_gname ?_
  | refine r_gcons ?_
  | refine r_gnil ?_
  | refine r_rng1 ?_
  | refine r_rng2 ?_
  | refine r_for ?_
  | refine r_lc1 ?_
  | refine r_lc2 ?_
  | refine r_lc3 ?_
  | refine r_lc ?_
  | refine r_while ?_
  | refine r_rev ?_
  | refine r_sl ?_
  | refine r_augS ?_
  | refine r_iL ?_
  | refine r_iT ?_
  | refine r_iE ?_
  | refine r_ipI ?_
  | refine r_aug rfl ?_
  | refine r_cval ?_
  | refine r_turnN ?_
  | refine iT ?_
  | refine iNT ?_
  | refine iNF ?_
  | refine iOF ?_
  | refine iF ?_
  | refine r_part ?_
  | refine r_pi ?_
  | refine r_gsub ?_
  | refine r_noPart ?_)
local macro_rules | `(tactic| walk_at "rd") => `(tactic| (repeat (first | walk_at "rd1" | walk_at "fact")))
local macro_rules | `(tactic| walk_at "plen") => `(tactic| (repeat (first | decide | refine putF_lt ?_)))
local macro_rules | `(tactic| walk_at "rs") => `(tactic| (repeat ((fail_if_success (with_reducible refine r_stop ?_)); (first | walk_at "rd1" | walk_at "fact"))))
def spNum : Sp := fun vs H Q _ => ∃ n lo hi : Int, vs = [.int n, .int lo, .int hi] ∧ lo ≤ n ∧ n ≤ hi ∧ Q .non H
theorem ok_validate_number {P : Program} {w : World} {K : PySem.W.Frag} {mg : Str → Option Value} {base : Heap} (T : Tx K mg) : C8.Cal P w K mg base 1 "validate_number" (spNum) [] := by
  refine cal_of (d := d_validate_number) (x := "validate_number") (fn_validate_number T) rfl rfl (fg_validate_number T) sc_validate_number (fun _ _ _ _ _ _ us hl => match us, hl with | [_, _, _], _ => rfl) (fun vs H Q E h => ?_) (fun cdv A outer s H vs Q E hr h => ?_)
  · obtain ⟨n, lo, hi, rfl, h1, h2, k⟩ := h
    rfl
  obtain ⟨n, lo, hi, rfl, h1, h2, k⟩ := h
  refine ⟨_, (pss_one (ps_if (pt_not (pt_chain op_le op_le (pv 1) (pv 0) (pv 2))) (pss_one ps_never) pss_nil)), ?_⟩
  try dsimp only [cxOf, Cx.nox, Cx.wish]
  repeat rw [st_cons]
  repeat rw [st_none]
  try rw [st_nn]
  walk_at "rd"
  refine iY h1 ?_
  walk_at "rd"
  refine iN' h2 ?_
  walk_at "rd"
  exact k
def spAms (K : PySem.W.Frag) : Sp := fun vs H Q _ => ∃ (s : Str) (a : Addr) (xs : List Int), vs = [.str s, .ref a] ∧ SqT K H a (xs.map V.int) ∧ xs.length ≤ 24 ∧ (∀ x ∈ xs, 0 ≤ x ∧ x ≤ 1000000000) ∧ ∀ H', Same H H' → Q .non H'
theorem ok_validate_amounts {P : Program} {w : World} {K : PySem.W.Frag} {mg : Str → Option Value} {base : Heap} (T : Tx K mg) : C8.Cal P w K mg base 1 "validate_amounts" (spAms K) [] := by
  refine cal_of (d := d_validate_amounts) (x := "validate_amounts") (fn_validate_amounts T) rfl rfl (fg_validate_amounts T) sc_validate_amounts (fun _ _ _ _ _ _ us hl => match us, hl with | [_, _], _ => rfl) (fun vs H Q E h => ?_) (fun cdv A outer s H vs Q E hr h => ?_)
  · obtain ⟨s, a, xs, rfl, hx, hl, hb, k⟩ := h
    rfl
  obtain ⟨s, a, xs, rfl, hx, hl, hb, k⟩ := h
  refine ⟨_, (pss_one (ps_for PassesOwn.never rfl (pi_enumT (by rfl) (fn_enumerate T) (pa_cons (pv 1) pa_nil)) (pg_tup (n := 2) (by rfl) (pgs_cons (pg_name (i := 2) sc_validate_amounts.nd rfl (Or.inl rfl)) (pgs_cons (pg_name (i := 3) sc_validate_amounts.nd rfl (Or.inl rfl)) pgs_nil))) (pss_one (ps_if (PW.pt (pw_or (pt_cmpR op_eqI (pv 2) (ClX.pe_cval (pe_glob (v := .ref (He.ga K "Bakery")) rfl (fg_Bakery T) rfl)) (nomark _)) (pw_or1 (pt_not (pt_chain op_le op_le pe_int (pv 3) (C8.pe_gc rfl (gc_int (fi_MAX_AMOUNT T)))))))) (pss_one ps_never) pss_nil)))), ?_⟩
  try dsimp only [cxOf, Cx.nox, Cx.wish]
  repeat rw [st_cons]
  repeat rw [st_none]
  try rw [st_nn]
  walk_at "rd"
  refine ⟨_, _, rfl, hx, ?_⟩
  refine fR_enumT (xs := xs.map V.int) (fun i σ H' => Same H H' ∧ ∃ x y, σ = [some (.str s), some (.ref a), x, y]) ⟨sameR, none, none, rfl⟩ (fun i σ H' p => same_sqT p.1 hx) ?_ (fun σ H' p => k H' p.1)
  rintro i x t σ H' hi ⟨sm, x1, x2, rfl⟩ ht
  obtain ⟨z, hz, rfl⟩ : ∃ z, xs[i]? = some z ∧ V.int z = x := by simpa using hi
  have lt : i < xs.length := (List.getElem?_eq_some_iff.mp hz).1
  obtain ⟨b0, b1⟩ := hb z (List.mem_of_getElem? hz)
  refine r_turnG ?_
  refine r_gtup (sqT_at upd_same) rfl ?_
  walk_at "rd"
  refine r_cvalR (fcv_Bakery_MAX_DAYS T) ?_
  walk_at "rd"
  refine iN (by omega) ?_
  walk_at "rd"
  refine iY b0 ?_
  walk_at "rd"
  refine iN' b1 ?_
  walk_at "rd"
  exact ⟨same_mut sm (none_of_same sm ht), _, _, rfl⟩
/-! ### a Bakery in the heap -/
def bakF (tb tw : Addr) (B : Bak) (r : List (Str × V)) : List (Str × V) := ("baking", .ref tb) :: ("wishes", .ref tw) :: ("days_kept", .int B.life) :: ("size", .int (B.n : Nat)) :: r
def bakMs : List Str := ["baked_on", "effect_of", "start_of", "stock", "missed", "thrown", "sold", "wished_before", "totals", "shelf", "with_life", "baking_more"]
def Rst (r : List (Str × V)) : Prop := (bakMs.all fun m => (r.lookup m).isNone) = true
def BakC (K : PySem.W.Frag) (H : Hp) (a : Addr) (B : Bak) : Prop := B.Ok ∧ ∃ dx tb tw r, H a = some (.ins (He.ga K "Bakery") dx (bakF tb tw B r)) ∧ Rst r ∧ SqT K H tb (B.bakes.map V.int) ∧ SqT K H tw (B.dems.map V.int)
theorem Rst.at {r : List (Str × V)} (h : Rst r) {m : Str} (hm : m ∈ bakMs) : r.lookup m = none := by
  have z := List.all_eq_true.mp h m hm
  exact Option.isNone_iff_eq_none.mp z
theorem bakF_no {tb tw : Addr} {B : Bak} {r : List (Str × V)} {m : Str} (h : Rst r) (hm : m ∈ bakMs) : (bakF tb tw B r).lookup m = none := by
  have z := h.at hm
  unfold bakF
  simp only [bakMs, List.mem_cons, List.not_mem_nil, or_false] at hm
  rcases hm with rfl | rfl | rfl | rfl | rfl | rfl | rfl | rfl | rfl | rfl | rfl | rfl <;> exact z
theorem lkB_baking {tb tw : Addr} {B : Bak} {r : List (Str × V)} : (bakF tb tw B r).lookup ("baking" : Str) = some (V.ref tb) := by kernel_rfl
theorem lkB_wishes {tb tw : Addr} {B : Bak} {r : List (Str × V)} : (bakF tb tw B r).lookup ("wishes" : Str) = some (V.ref tw) := by kernel_rfl
theorem lkB_days_kept {tb tw : Addr} {B : Bak} {r : List (Str × V)} : (bakF tb tw B r).lookup ("days_kept" : Str) = some (V.int B.life) := by kernel_rfl
theorem lkB_size {tb tw : Addr} {B : Bak} {r : List (Str × V)} : (bakF tb tw B r).lookup ("size" : Str) = some (V.int (B.n : Nat)) := by kernel_rfl
section
variable {K : PySem.W.Frag} {mg : Str → Option Value} (T : Tx K mg) {H : Hp} {a dx tb tw : Addr} {B : Bak} {r : List (Str × V)} {Q : VK} (h : H a = some (.ins (He.ga K "Bakery") dx (bakF tb tw B r)))
include T h
theorem fB_baking (q : Q (.ref tb) H) : FldR K "baking" Q (.ref a) H := r_fldR h (fc_Bakery T) (fna_Bakery_baking T) lkB_baking q
theorem fB_wishes (q : Q (.ref tw) H) : FldR K "wishes" Q (.ref a) H := r_fldR h (fc_Bakery T) (fna_Bakery_wishes T) lkB_wishes q
theorem fB_days_kept (q : Q (.int B.life) H) : FldR K "days_kept" Q (.ref a) H := r_fldR h (fc_Bakery T) (fna_Bakery_days_kept T) lkB_days_kept q
theorem fB_size (q : Q (.int (B.n : Nat)) H) : FldR K "size" Q (.ref a) H := r_fldR h (fc_Bakery T) (fna_Bakery_size T) lkB_size q
end
theorem mB {K : PySem.W.Frag} {σ : L2.St} {H : Hp} {Q : VK} {m : Str} {sp : Sp} {E : XK} {t : TA} {a dx tb tw : Addr} {B : Bak} {r : List (Str × V)} (h : H a = some (.ins (He.ga K "Bakery") dx (bakF tb tw B r))) (hr : Rst r) (hm : m ∈ bakMs) (q : t σ H fun vs H2 => sp (.ref a :: vs) H2 Q E) : MetR (He.ga K "Bakery") m sp [] E t σ Q (.ref a) H := r_metR h (bakF_no hr hm) q
def spBks (K : PySem.W.Frag) : Sp := fun vs H Q _ => ∃ a dx tb tw B r, vs = [.ref a] ∧ H a = some (.ins (He.ga K "Bakery") dx (bakF tb tw B r)) ∧ Q (.ref tb) H
def spDms (K : PySem.W.Frag) : Sp := fun vs H Q _ => ∃ a dx tb tw B r, vs = [.ref a] ∧ H a = some (.ins (He.ga K "Bakery") dx (bakF tb tw B r)) ∧ Q (.ref tw) H
def spLif (K : PySem.W.Frag) : Sp := fun vs H Q _ => ∃ a dx tb tw B r, vs = [.ref a] ∧ H a = some (.ins (He.ga K "Bakery") dx (bakF tb tw B r)) ∧ Q (.int B.life) H
local macro_rules | `(tactic| walk_at "fact") => `(tactic| with_reducible first
  | refine fB_baking ‹_› (by assumption) ?_
  | refine fB_wishes ‹_› (by assumption) ?_
  | refine fB_days_kept ‹_› (by assumption) ?_
  | refine fB_size ‹_› (by assumption) ?_
  | refine mB (by assumption) (by assumption) (by decide) ?_)
theorem ok_Bakery_bakes {P : Program} {w : World} {K : PySem.W.Frag} {mg : Str → Option Value} {base : Heap} (T : Tx K mg) : Prp P w K mg base 1 (He.ga K "Bakery") "bakes" (spBks K) := by
  refine prp_of (d := d_Bakery_bakes) (C := "Bakery") (f := "bakes") (fn_Bakery_bakes T) rfl rfl (fc_Bakery T) (fpr_Bakery_bakes T) sc_Bakery_bakes (fun _ _ _ _ _ _ us hl => match us, hl with | [_], _ => rfl) (fun vs H Q E h => ?_) (fun cdv A outer s H vs Q E hr h => ?_)
  · obtain ⟨a, dx, tb, tw, B, r, rfl, hB, k⟩ := h
    rfl
  obtain ⟨a, dx, tb, tw, B, r, rfl, hB, k⟩ := h
  refine ⟨_, (pss_one (ps_ret (pe_fld (pv 0) rfl))), ?_⟩
  try dsimp only [cxOf, Cx.nox, Cx.wish]
  repeat rw [st_cons]
  repeat rw [st_none]
  try rw [st_nn]
  walk_at "rd"
  exact k
theorem ok_Bakery_demands {P : Program} {w : World} {K : PySem.W.Frag} {mg : Str → Option Value} {base : Heap} (T : Tx K mg) : Prp P w K mg base 1 (He.ga K "Bakery") "demands" (spDms K) := by
  refine prp_of (d := d_Bakery_demands) (C := "Bakery") (f := "demands") (fn_Bakery_demands T) rfl rfl (fc_Bakery T) (fpr_Bakery_demands T) sc_Bakery_demands (fun _ _ _ _ _ _ us hl => match us, hl with | [_], _ => rfl) (fun vs H Q E h => ?_) (fun cdv A outer s H vs Q E hr h => ?_)
  · obtain ⟨a, dx, tb, tw, B, r, rfl, hB, k⟩ := h
    rfl
  obtain ⟨a, dx, tb, tw, B, r, rfl, hB, k⟩ := h
  refine ⟨_, (pss_one (ps_ret (pe_fld (pv 0) rfl))), ?_⟩
  try dsimp only [cxOf, Cx.nox, Cx.wish]
  repeat rw [st_cons]
  repeat rw [st_none]
  try rw [st_nn]
  walk_at "rd"
  exact k
theorem ok_Bakery_life {P : Program} {w : World} {K : PySem.W.Frag} {mg : Str → Option Value} {base : Heap} (T : Tx K mg) : Prp P w K mg base 1 (He.ga K "Bakery") "life" (spLif K) := by
  refine prp_of (d := d_Bakery_life) (C := "Bakery") (f := "life") (fn_Bakery_life T) rfl rfl (fc_Bakery T) (fpr_Bakery_life T) sc_Bakery_life (fun _ _ _ _ _ _ us hl => match us, hl with | [_], _ => rfl) (fun vs H Q E h => ?_) (fun cdv A outer s H vs Q E hr h => ?_)
  · obtain ⟨a, dx, tb, tw, B, r, rfl, hB, k⟩ := h
    rfl
  obtain ⟨a, dx, tb, tw, B, r, rfl, hB, k⟩ := h
  refine ⟨_, (pss_one (ps_ret (pe_fld (pv 0) rfl))), ?_⟩
  try dsimp only [cxOf, Cx.nox, Cx.wish]
  repeat rw [st_cons]
  repeat rw [st_none]
  try rw [st_nn]
  walk_at "rd"
  exact k
def spBkd (K : PySem.W.Frag) : Sp := fun vs H Q _ => ∃ (a : Addr) (B : Bak) (d : Int), vs = [.ref a, .int d] ∧ BakC K H a B ∧ Q (.int (B.bk d)) H
theorem ok_Bakery_baked_on {P : Program} {w : World} {K : PySem.W.Frag} {mg : Str → Option Value} {base : Heap} (T : Tx K mg) : C8.Met P w K mg base 1 (He.ga K "Bakery") "baked_on" (spBkd K) [] := by
  refine met_of (d := d_Bakery_baked_on) (C := "Bakery") (m := "baked_on") (fn_Bakery_baked_on T) rfl rfl (fc_Bakery T) (fme_Bakery_baked_on T) sc_Bakery_baked_on (fun _ _ _ _ _ _ us hl => match us, hl with | [_, _], _ => rfl) (fun vs H Q E h => ?_) (fun cdv A outer s H vs Q E hr h => ?_)
  · obtain ⟨a, B, d, rfl, ⟨ok, dx, tb, tw, r, hB, hq, hb, hw⟩, k⟩ := h
    rfl
  obtain ⟨a, B, d, rfl, ⟨ok, dx, tb, tw, r, hB, hq, hb, hw⟩, k⟩ := h
  refine ⟨_, (pss_one (ps_ret (pe_ifExp (pt_cmpR op_ge (pv 1) pe_int (nomark _)) (pe_ix ix_tup (pe_fld (pv 0) rfl) (pe_op op_mod (pe_callTy cq_int (by rfl) (fn_int T) bb_int (pa_cons (pv 1) pa_nil)) (pe_fld (pv 0) rfl)) (fun _ _ => rfl)) pe_int))), ?_⟩
  try dsimp only [cxOf, Cx.nox, Cx.wish]
  repeat rw [st_cons]
  repeat rw [st_none]
  try rw [st_nn]
  have n0 := ok.n0
  walk_at "rd"
  refine i2 (fun c => ?_) (fun c => ?_)
  · walk_at "rd"
    refine r_I (by omega) ?_
    refine r_ixT hb (ok.ix d).2.symm (by rw [List.getElem?_map, ok.bk_at c]; rfl) ?_
    exact k
  · walk_at "rd"
    unfold Bak.bk at k
    rw [if_neg c] at k
    exact k
def spEof (K : PySem.W.Frag) : Sp := fun vs H Q _ => ∃ (a : Addr) (B : Bak) (d : Int), vs = [.ref a, .int d] ∧ BakC K H a B ∧ ∀ p H', Same H H' → EffAt K H' p (B.eff d) → Q (.ref p) H'
theorem BakC.mono {K : PySem.W.Frag} {H H' : Hp} {a : Addr} {B : Bak} (h : BakC K H a B) (s : Same H H') : BakC K H' a B := by
  obtain ⟨ok, dx, tb, tw, r, hB, hq, hb, hw⟩ := h
  exact ⟨ok, dx, tb, tw, r, s _ _ hB, hq, same_sqT s hb, same_sqT s hw⟩
theorem ok_Bakery_effect_of {P : Program} {w : World} {K : PySem.W.Frag} {mg : Str → Option Value} {base : Heap} (T : Tx K mg) : C8.Met P w K mg base 4 (He.ga K "Bakery") "effect_of" (spEof K) [] := by
  have G_Bakery_baked_on := ok_Bakery_baked_on (P := P) (w := w) (base := base) T
  have G_day_effect := ok_day_effect (P := P) (w := w) (base := base) T
  refine met_of (d := d_Bakery_effect_of) (C := "Bakery") (m := "effect_of") (fn_Bakery_effect_of T) rfl rfl (fc_Bakery T) (fme_Bakery_effect_of T) sc_Bakery_effect_of (fun _ _ _ _ _ _ us hl => match us, hl with | [_, _], _ => rfl) (fun vs H Q E h => ?_) (fun cdv A outer s H vs Q E hr h => ?_)
  · obtain ⟨a, B, d, rfl, ⟨ok, dx, tb, tw, r, hB, hq, hb, hw⟩, k⟩ := h
    rfl
  obtain ⟨a, B, d, rfl, ⟨ok, dx, tb, tw, r, hB, hq, hb, hw⟩, k⟩ := h
  refine ⟨_, (pss_cons (ps_set (i := 3) sc_Bakery_effect_of.nd rfl (Or.inl rfl) (pe_callB (cr_sum rfl) (by rfl) (fn_sum T) bb_sum (pa_cons (pe_lc (own := [("age", 2)]) (by rfl) sc_Bakery_effect_of.nd (pi_range1 (by rfl) (fn_range T) (pa_cons (pe_op op_sub (pe_fld (pv 0) rfl) pe_int) pa_nil)) (blkOk_by (own := [("age", 2)]) (N := ["self", "day", "age", "kept"]) (sc := defScope s_Bakery_effect_of) (by decide +kernel)) (fun _ _ _ _ _ => (pg_name (i := 2) sc_Bakery_effect_of.nd rfl (Or.inl rfl))) (fun _ _ _ _ _ => pts_nil) (fun _ _ _ _ _ => by exact (C8.pe_mt G_Bakery_baked_on hr (by decide) (pv 0) (pa_cons (pe_op op_sub (pv 1) (pv 2)) pa_nil)))) pa_nil)))
      (pss_one (ps_ret (C8.pe_c G_day_effect hr (by decide) (by rfl) (pa_cons (C8.pe_mt G_Bakery_baked_on hr (by decide) (pv 0) (pa_cons (pv 1) pa_nil)) (pa_cons (pe_ix ix_tup (pe_fld (pv 0) rfl) (pe_op op_mod (pe_callTy cq_int (by rfl) (fn_int T) bb_int (pa_cons (pv 1) pa_nil)) (pe_fld (pv 0) rfl)) (fun _ _ => rfl)) (pa_cons (pv 3) pa_nil))))))), ?_⟩
  try dsimp only [cxOf, Cx.nox, Cx.wish]
  repeat rw [st_cons]
  repeat rw [st_none]
  try rw [st_nn]
  have n0 := ok.n0
  have l0 := ok.l0
  have l1 := ok.l1
  walk_at "rd"
  refine ⟨_, rfl, by omega, by omega, ?_⟩
  refine lcN_range (fun i v _ => v = .int (B.bk (d - (i : Nat)))) (fun _ _ => Stab.triv) (Nat.le_trans (show _ ≤ 100 by omega) (by decide)) (fun _ => rfl) (fun i H' Z hi sm z => ?_) fun D H' ys hD sm hl len hys => ?_
  · have hB2 := sm _ _ hB
    walk_at "rd"
    refine ⟨a, B, _, rfl, ⟨ok, dx, tb, tw, r, hB2, hq, same_sqT sm hb, same_sqT sm hw⟩, ?_⟩
    exact z _ _ sameR (by rw [Int.zero_add])
  · have hB2 := sm _ _ hB
    have hw2 := same_sqT sm hw
    walk_at "rd"
    refine r_sumL (sqL_at (by rw [hl, ints_of len hys])) ?_
    walk_at "rd"
    refine ⟨a, B, _, rfl, ⟨ok, dx, tb, tw, r, hB2, hq, same_sqT sm hb, hw2⟩, ?_⟩
    walk_at "rd"
    refine r_I (by omega) ?_
    refine r_ixT hw2 (ok.ix d).2.symm (by rw [List.getElem?_map, ok.wish_at d]; rfl) ?_
    walk_at "rd"
    exact ⟨_, _, _, rfl, fun p H2 s2 h2 => k p H2 (sameT sm s2) h2⟩

end G57
end
section
set_option maxRecDepth 100000
set_option maxHeartbeats 4000000
namespace G57
open PySem PySem.Spec PyProof.Rows L2
/-! the walk's small steps: "rd" reads on as far as it can -/
local macro_rules | `(tactic| walk_at "fact") => `(tactic| fail)
local macro_rules | `(tactic| walk_at "rd1") => `(tactic| with_reducible first
  | (refine v_id ?_; first | refine r_var_0 ?_ | refine r_var_1 ?_ | refine r_var_2 ?_ | refine r_var_3 ?_ | refine r_var_4 ?_ | refine r_var_5 ?_ | refine r_var_6 ?_ | refine r_var_7 ?_ | refine r_var_8 ?_ | refine r_var_9 ?_ | refine r_var_10 ?_ | refine r_var_11 ?_ | refine r_var_12 ?_ | refine r_var_13 ?_ | refine r_var_14 ?_ | refine r_var_15 ?_ | refine r_var_16 ?_ | refine r_var_17 ?_ | refine r_var_18 ?_ | refine r_var_19 ?_ | refine r_var_20 ?_ | refine r_var_21 ?_ | refine r_var_22 ?_ | refine r_var_23 ?_ | refine r_var_24 ?_ | refine r_var_25 ?_ | refine r_var_26 ?_ | refine r_var_27 ?_ | refine r_var rfl ?_)
  | (refine s_id ?_; first | refine r_set_0 ?_ | refine r_set_1 ?_ | refine r_set_2 ?_ | refine r_set_3 ?_ | refine r_set_4 ?_ | refine r_set_5 ?_ | refine r_set_6 ?_ | refine r_set_7 ?_ | refine r_set_8 ?_ | refine r_set_9 ?_ | refine r_set_10 ?_ | refine r_set_11 ?_ | refine r_set_12 ?_ | refine r_set_13 ?_ | refine r_set_14 ?_ | refine r_set_15 ?_ | refine r_set_16 ?_ | refine r_set_17 ?_ | refine r_set_18 ?_ | refine r_set_19 ?_ | refine r_set_20 ?_ | refine r_set_21 ?_ | refine r_set_22 ?_ | refine r_set_23 ?_ | refine r_set_24 ?_ | refine r_set_25 ?_ | refine r_set_26 ?_ | refine r_set_27 ?_ | refine r_setU ?_)
  | refine r_c ?_
  | refine r_op ?_
  | refine r_I0 ?_
  | refine r_seq ?_
  | refine r_asg ?_
  | refine r_fld ?_
  | refine r_nil ?_
  | refine r_cons ?_
  | refine r_cb ?_
  | refine r_max ?_
  | refine r_min ?_
  | refine r_ret ?_
  | refine r_met ?_
  | refine r_call ?_
  | refine r_B ?_
  | refine r_test ?_
  | refine r_b' ?_
  | refine r_ifS ?_
  | refine r_if ?_
  | refine r_par ?_
  | refine r_par2 ?_
  | refine r_drop ?_
  | refine r_next ?_
  | refine r_make ?_
  | refine r_sfld ?_
  | refine r_int1 ?_
  | refine r_intb ?_
  | refine r_and ?_
  | refine r_or ?_
  | refine r_not ?_
  | refine r_chain ?_
  | refine r_isN ?_
  | refine r_notN ?_
  | refine r_un ?_
  | refine r_U ?_
  | refine r_par3 ?_
  | refine r_par33 ?_
  | refine r_tup ?_
  | refine r_lst ?_
  | refine r_prop ?_
  | refine r_bm ?_
  | refine r_bm0 ?_
  | refine r_andV ?_
  | refine r_orV ?_
  | refine r_notV ?_
  | refine r_asgG ?_
  | refine r_gname ?_
  | refine r_gcons ?_
  | refine r_gnil ?_
  | refine r_rng1 ?_
  | refine r_rng2 ?_
  | refine r_for ?_
  | refine r_lc1 ?_
  | refine r_lc2 ?_
  | refine r_lc3 ?_
  | refine r_lc ?_
  | refine r_while ?_
  | refine r_rev ?_
  | refine r_sl ?_
  | refine r_augS ?_
  | refine r_iL ?_
  | refine r_iT ?_
  | refine r_iE ?_
  | refine r_ipI ?_
  | refine r_aug rfl ?_
  | refine r_cval ?_
  | refine r_turnN ?_
  | refine iT ?_
  | refine iNT ?_
  | refine iNF ?_
  | refine iOF ?_
  | refine iF ?_
  | refine r_part ?_
  | refine r_pi ?_
  | refine r_gsub ?_
  | refine r_noPart ?_)
local macro_rules | `(tactic| walk_at "rd") => `(tactic| (repeat (first | walk_at "rd1" | walk_at "fact")))
local macro_rules | `(tactic| walk_at "plen") => `(tactic| (repeat (first | decide | refine putF_lt ?_)))
local macro_rules | `(tactic| walk_at "rs") => `(tactic| (repeat ((fail_if_success (with_reducible refine r_stop ?_)); (first | walk_at "rd1" | walk_at "fact"))))
local macro_rules | `(tactic| walk_at "fact") => `(tactic| with_reducible first
  | refine mE (by assumption) (mlk_end _) ?_
  | refine mE (by assumption) (mlk_missed _) ?_
  | refine mE (by assumption) (mlk_thrown _) ?_
  | refine mE (by assumption) (mlk_followed _) ?_
  | refine use_end (by assumption) ?_
  | refine use_mis (by assumption) ?_
  | refine use_thr (by assumption) ?_
  | refine use_fol (by assumption) (by assumption) ?_
  | refine fB_baking ‹_› (by assumption) ?_
  | refine fB_wishes ‹_› (by assumption) ?_
  | refine fB_days_kept ‹_› (by assumption) ?_
  | refine fB_size ‹_› (by assumption) ?_
  | refine mB (by assumption) (by assumption) (by decide) ?_)
def spAft (K : PySem.W.Frag) : Sp := fun vs H Q _ => ∃ (a : Addr) (e : Eff) (s t : Int), vs = [.ref a, .int s, .int t] ∧ EffAt K H a e ∧ 0 ≤ t ∧ e.Ok ∧ ∀ H', Same H H' → Q (.int (itf e t.toNat s)) H'
theorem ok_after {P : Program} {w : World} {K : PySem.W.Frag} {mg : Str → Option Value} {base : Heap} (T : Tx K mg) : C8.Cal P w K mg base 5 "after" (spAft K) [] := by
  have G_power := ok_power (P := P) (w := w) (base := base) T
  have G_Effect_end := ok_Effect_end (P := P) (w := w) (base := base) T
  refine cal_of (d := d_after) (x := "after") (fn_after T) rfl rfl (fg_after T) sc_after (fun _ _ _ _ _ _ us hl => match us, hl with | [_, _, _], _ => rfl) (fun vs H Q E h => ?_) (fun cdv A outer s H vs Q E hr h => ?_)
  · obtain ⟨a, e, s, t, rfl, ⟨da, hE⟩, ht, he, k⟩ := h
    rfl
  obtain ⟨a, e, s, t, rfl, ⟨da, hE⟩, ht, he, k⟩ := h
  refine ⟨_, (pss_one (ps_ret (pe_ifExp (pt_cmpR op_gt (pv 2) pe_int (nomark _)) (C8.pe_mt G_Effect_end hr (by decide) (C8.pe_c G_power hr (by decide) (by rfl) (pa_cons (pv 0) (pa_cons (pv 2) pa_nil))) (pa_cons (pv 1) pa_nil)) (pv 1)))), ?_⟩
  try dsimp only [cxOf, Cx.nox, Cx.wish]
  repeat rw [st_cons]
  repeat rw [st_none]
  try rw [st_nn]
  walk_at "rd"
  refine i2 (fun c => ?_) (fun c => ?_)
  · walk_at "rd"
    refine use_pow (by assumption) c he fun p g H' sm ⟨dp, hp⟩ hg => ?_
    walk_at "rd"
    rw [hg.fin]
    exact k H' sm
  · walk_at "rd"
    have e0 : t = 0 := by omega
    subst e0
    exact k H sameR
def spRnd (K : PySem.W.Frag) : Sp := fun vs H Q _ => ∃ (a : Addr) (e : Eff) (s : Int) (r : Nat), vs = [.ref a, .int s] ∧ EffAt K H a e ∧ e.Ok ∧ Settle e s r ∧ ∀ H', Same H H' → Q (.int (r : Nat)) H'
theorem ok_rounds_to_settle {P : Program} {w : World} {K : PySem.W.Frag} {mg : Str → Option Value} {base : Heap} (T : Tx K mg) : C8.Cal P w K mg base 6 "rounds_to_settle" (spRnd K) [] := by
  have G_Effect_end := ok_Effect_end (P := P) (w := w) (base := base) T
  have G_after := ok_after (P := P) (w := w) (base := base) T
  refine cal_of (d := d_rounds_to_settle) (x := "rounds_to_settle") (fn_rounds_to_settle T) rfl rfl (fg_rounds_to_settle T) sc_rounds_to_settle (fun _ _ _ _ _ _ us hl => match us, hl with | [_, _], _ => rfl) (fun vs H Q E h => ?_) (fun cdv A outer s H vs Q E hr h => ?_)
  · obtain ⟨a, e, s, r, rfl, ⟨da, hE⟩, he, hs, k⟩ := h
    rfl
  obtain ⟨a, e, s, r, rfl, ⟨da, hE⟩, he, hs, k⟩ := h
  refine ⟨_, (pss_cons (ps_asg (pe_tup (pa_cons pe_int (pa_cons pe_int pa_nil))) (pg_tup (n := 2) (by rfl) (pgs_cons (pg_name (i := 2) sc_rounds_to_settle.nd rfl (Or.inl rfl)) (pgs_cons (pg_name (i := 3) sc_rounds_to_settle.nd rfl (Or.inl rfl)) pgs_nil))))
      (pss_cons (ps_while PassesOwn.never (pt_cmpR op_neI (C8.pe_mt G_Effect_end hr (by decide) (pv 0) (pa_cons (C8.pe_c G_after hr (by decide) (by rfl) (pa_cons (pv 0) (pa_cons (pv 1) (pa_cons (pv 3) pa_nil)))) pa_nil)) (C8.pe_c G_after hr (by decide) (by rfl) (pa_cons (pv 0) (pa_cons (pv 1) (pa_cons (pv 3) pa_nil)))) (nomark _)) (pss_one (ps_aug (i := 3) sc_rounds_to_settle.nd rfl (Or.inl rfl) pe_int ip_mul)))
      (pss_cons (ps_while PassesOwn.never (pt_cmpR op_lt (pv 2) (pv 3) (nomark _)) (pss_cons (ps_set (i := 4) sc_rounds_to_settle.nd rfl (Or.inl rfl) (pe_op op_fdiv (pe_op op_add (pv 2) (pv 3)) pe_int))
      (pss_cons (ps_set (i := 5) sc_rounds_to_settle.nd rfl (Or.inl rfl) (C8.pe_c G_after hr (by decide) (by rfl) (pa_cons (pv 0) (pa_cons (pv 1) (pa_cons (pv 4) pa_nil)))))
      (pss_one (ps_if (pt_cmpR op_eqI (C8.pe_mt G_Effect_end hr (by decide) (pv 0) (pa_cons (pv 5) pa_nil)) (pv 5) (nomark _)) (pss_one (ps_set (i := 3) sc_rounds_to_settle.nd rfl (Or.inl rfl) (pv 4))) (pss_one (ps_set (i := 2) sc_rounds_to_settle.nd rfl (Or.inl rfl) (pe_op op_add (pv 4) pe_int))))))))
      (pss_one (ps_ret (pv 2)))))), ?_⟩
  try dsimp only [cxOf, Cx.nox, Cx.wish]
  repeat rw [st_cons]
  repeat rw [st_none]
  try rw [st_nn]
  walk_at "rd"
  refine r_nwT (by decide) fun p hp => ?_
  walk_at "rd"
  refine r_gtup (sqT_at upd_same) rfl ?_
  walk_at "rd"
  refine ⟨fun m σ H' => ∃ (hi : Nat), σ = [some (.ref a), some (.int s), some (.int 0), some (.int (hi : Nat)), none, none] ∧ 0 < hi ∧ m = r - hi ∧ Same H H', ⟨_, 1, rfl, by decide, rfl, same_new hp⟩, ?_⟩
  rintro m σ H' ⟨hi, rfl, h0, rfl, sm⟩
  have hE2 := sm _ _ hE
  walk_at "rd"
  refine ⟨a, e, s, hi, rfl, ⟨da, hE2⟩, by omega, he, fun H2 s2 => ?_⟩
  have hE3 := s2 _ _ hE2
  walk_at "rd"
  refine ⟨a, e, s, hi, rfl, ⟨da, hE3⟩, by omega, he, fun H3 s3 => ?_⟩
  have sm3 := sameT sm (sameT s2 s3)
  have hE4 := s3 _ _ hE3
  have e1 : ((hi : Nat) : Int).toNat = hi := rfl
  rw [e1]
  walk_at "rd"
  refine i2n (fun c => ?_) (fun c => ?_)
  · refine r_turn ?_
    have lt : hi < r := by
      have z : ¬ r ≤ hi := fun z => c ((hs.iff hi).mpr z)
      omega
    walk_at "rd"
    refine ⟨_, _, rfl, rfl, .inr (by decide), ?_⟩
    walk_at "rd"
    exact ⟨_, (by omega : r - hi * 2 < r - hi), hi * 2, by simp, by omega, rfl, sm3⟩
  · have le := (hs.iff hi).mp c
    walk_at "rd"
    refine ⟨fun m σ H' => ∃ (lo hi : Nat) (x y : Option V), σ = [some (.ref a), some (.int s), some (.int (lo : Nat)), some (.int (hi : Nat)), x, y] ∧ lo ≤ r ∧ r ≤ hi ∧ m = hi - lo ∧ Same H H', ⟨_, 0, hi, _, _, rfl, by omega, le, rfl, sm3⟩, ?_⟩
    rintro m σ H' ⟨lo, hi, x, y, rfl, h1, h2, rfl, sm⟩
    have hE5 := sm _ _ hE
    walk_at "rd"
    refine i2 (fun c => ?_) (fun c => ?_)
    · refine r_turn ?_
      walk_at "rd"
      refine r_I ⟨by decide, by decide⟩ ?_
      walk_at "rd"
      have e2 : ((lo : Int) + hi) / 2 = (((lo + hi) / 2 : Nat) : Int) := by omega
      rw [e2]
      refine ⟨a, e, s, ((lo + hi) / 2 : Nat), rfl, ⟨da, hE5⟩, by omega, he, fun H6 s6 => ?_⟩
      have hE6 := s6 _ _ hE5
      have e3 : (((lo + hi) / 2 : Nat) : Int).toNat = (lo + hi) / 2 := rfl
      rw [e3]
      walk_at "rd"
      refine i2 (fun c2 => ?_) (fun c2 => ?_)
      · have le := (hs.iff _).mp c2
        walk_at "rd"
        exact ⟨_, (by omega : (lo + hi) / 2 - lo < hi - lo), lo, _, _, _, rfl, h1, le, rfl, sameT sm s6⟩
      · have nle : ¬ r ≤ (lo + hi) / 2 := fun z => c2 ((hs.iff _).mpr z)
        walk_at "rd"
        exact ⟨_, (by omega : hi - ((lo + hi) / 2 + 1) < hi - lo), (lo + hi) / 2 + 1, hi, _, _, rfl, by omega, h2, rfl, sameT sm s6⟩
    · have e2 : lo = r := by omega
      subst e2
      walk_at "rd"
      exact k H' sm
/-! ### a Bakery with its first days and its round -/
def bakR (te tr tp : Addr) (r : List (Str × V)) : List (Str × V) := ("early", .ref te) :: ("round", .ref tr) :: ("prefixes", .ref tp) :: r
theorem bakR_rst {te tr tp : Addr} {r : List (Str × V)} (h : Rst r) : Rst (bakR te tr tp r) := h
def PreAt (K : PySem.W.Frag) (H : Hp) (B : Bak) (k : Nat) (v : V) : Prop := ∃ p g, v = .ref p ∧ EffAt K H p g ∧ IsRun B B.last (k + 1) g
def Bak.earlyV (B : Bak) : List V := ((List.range (B.last + 1)).map B.st).map V.int
def BakM (K : PySem.W.Frag) (H : Hp) (a : Addr) (B : Bak) : Prop := B.Ok ∧ ∃ dx tb tw te tr tp r ps, H a = some (.ins (He.ga K "Bakery") dx (bakF tb tw B (bakR te tr tp r))) ∧ Rst r ∧ SqT K H tb (B.bakes.map V.int) ∧ SqT K H tw (B.dems.map V.int) ∧
  H te = some (.lst B.earlyV) ∧ H tp = some (.lst (.non :: ps)) ∧ ps.length = B.n ∧ ∀ (k : Nat) v, ps[k]? = some v → PreAt K H B k v
theorem BakM.c {K : PySem.W.Frag} {H : Hp} {a : Addr} {B : Bak} (h : BakM K H a B) : BakC K H a B := by
  obtain ⟨ok, dx, tb, tw, te, tr, tp, r, ps, hB, hq, hb, hw, _⟩ := h
  exact ⟨ok, dx, tb, tw, _, hB, bakR_rst hq, hb, hw⟩
theorem BakM.mono {K : PySem.W.Frag} {H H' : Hp} {a : Addr} {B : Bak} (h : BakM K H a B) (s : Same H H') : BakM K H' a B := by
  obtain ⟨ok, dx, tb, tw, te, tr, tp, r, ps, hB, hq, hb, hw, he, hp, hl, hps⟩ := h
  refine ⟨ok, dx, tb, tw, te, tr, tp, r, ps, s _ _ hB, hq, same_sqT s hb, same_sqT s hw, s _ _ he, s _ _ hp, hl, fun k v e => ?_⟩
  obtain ⟨p, g, z, q, i⟩ := hps k v e
  exact ⟨p, g, z, q.mono s, i⟩
theorem lkB_early {tb tw te tr tp : Addr} {B : Bak} {r : List (Str × V)} : (bakF tb tw B (bakR te tr tp r)).lookup ("early" : Str) = some (V.ref te) := by kernel_rfl
theorem lkB_round {tb tw te tr tp : Addr} {B : Bak} {r : List (Str × V)} : (bakF tb tw B (bakR te tr tp r)).lookup ("round" : Str) = some (V.ref tr) := by kernel_rfl
theorem lkB_prefixes {tb tw te tr tp : Addr} {B : Bak} {r : List (Str × V)} : (bakF tb tw B (bakR te tr tp r)).lookup ("prefixes" : Str) = some (V.ref tp) := by kernel_rfl
section
variable {K : PySem.W.Frag} {mg : Str → Option Value} (T : Tx K mg) {H : Hp} {a dx tb tw te tr tp : Addr} {B : Bak} {r : List (Str × V)} {Q : VK} (h : H a = some (.ins (He.ga K "Bakery") dx (bakF tb tw B (bakR te tr tp r))))
include T h
theorem fB_early (q : Q (.ref te) H) : FldR K "early" Q (.ref a) H := r_fldR h (fc_Bakery T) (fna_Bakery_early T) lkB_early q
theorem fB_round (q : Q (.ref tr) H) : FldR K "round" Q (.ref a) H := r_fldR h (fc_Bakery T) (fna_Bakery_round T) lkB_round q
theorem fB_prefixes (q : Q (.ref tp) H) : FldR K "prefixes" Q (.ref a) H := r_fldR h (fc_Bakery T) (fna_Bakery_prefixes T) lkB_prefixes q
end
local macro_rules | `(tactic| walk_at "fact") => `(tactic| with_reducible first
  | refine fB_early ‹_› (by assumption) ?_
  | refine fB_prefixes ‹_› (by assumption) ?_)
def spSta (K : PySem.W.Frag) : Sp := fun vs H Q _ => ∃ (a : Addr) (B : Bak) (d : Nat), vs = [.ref a, .int (d : Nat)] ∧ BakM K H a B ∧ ∀ H', Same H H' → Q (.int (B.st d)) H'
theorem ok_Bakery_start_of {P : Program} {w : World} {K : PySem.W.Frag} {mg : Str → Option Value} {base : Heap} (T : Tx K mg) : C8.Met P w K mg base 5 (He.ga K "Bakery") "start_of" (spSta K) [] := by
  have G_power := ok_power (P := P) (w := w) (base := base) T
  have G_Effect_end := ok_Effect_end (P := P) (w := w) (base := base) T
  refine met_of (d := d_Bakery_start_of) (C := "Bakery") (m := "start_of") (fn_Bakery_start_of T) rfl rfl (fc_Bakery T) (fme_Bakery_start_of T) sc_Bakery_start_of (fun _ _ _ _ _ _ us hl => match us, hl with | [_, _], _ => rfl) (fun vs H Q E h => ?_) (fun cdv A outer s H vs Q E hr h => ?_)
  · obtain ⟨a, B, d, rfl, ⟨ok, dx, tb, tw, te, tr, tp, r, ps, hB, hq, hb, hw, he, hp, hl, hps⟩, k⟩ := h
    rfl
  obtain ⟨a, B, d, rfl, ⟨ok, dx, tb, tw, te, tr, tp, r, ps, hB, hq, hb, hw, he, hp, hl, hps⟩, k⟩ := h
  refine ⟨_, (pss_cons (ps_set (i := 2) sc_Bakery_start_of.nd rfl (Or.inl rfl) (pe_op op_sub (pe_callB cq_len (by rfl) (fn_len T) bb_len (pa_cons (pe_fld (pv 0) rfl) pa_nil)) pe_int))
      (pss_cons (ps_if (pt_cmpR op_le (pv 1) (pv 2) (nomark _)) (pss_one (ps_ret (pe_ix ix_list (pe_fld (pv 0) rfl) (pv 1) (fun _ _ => rfl)))) pss_nil)
      (pss_cons (ps_par (i := 3) (j := 4) (by rfl) sc_Bakery_start_of.nd rfl rfl (by decide) rfl rfl (pa_cons (pe_op op_fdiv (pe_op op_sub (pv 1) (pv 2)) (pe_fld (pv 0) rfl)) (pa_cons (pe_op op_mod (pe_callTy cq_int (by rfl) (fn_int T) bb_int (pa_cons (pe_op op_sub (pv 1) (pv 2)) pa_nil)) (pe_fld (pv 0) rfl)) pa_nil)) (by rfl))
      (pss_cons (ps_set (i := 5) sc_Bakery_start_of.nd rfl (Or.inl rfl) (pe_ifExp (pt_cmpR op_gt (pv 3) pe_int (nomark _)) (C8.pe_mt G_Effect_end hr (by decide) (C8.pe_c G_power hr (by decide) (by rfl) (pa_cons (pe_ix ix_list (pe_fld (pv 0) rfl) (pe_un un_neg pe_int) (fun _ _ => rfl)) (pa_cons (pv 3) pa_nil))) (pa_cons (pe_ix ix_list (pe_fld (pv 0) rfl) (pv 2) (fun _ _ => rfl)) pa_nil)) (pe_ix ix_list (pe_fld (pv 0) rfl) (pv 2) (fun _ _ => rfl))))
      (pss_one (ps_ret (pe_ifExp (pt_cmpR op_gt (pv 4) pe_int (nomark _)) (C8.pe_mt G_Effect_end hr (by decide) (pe_ix ix_list (pe_fld (pv 0) rfl) (pv 4) (fun _ _ => rfl)) (pa_cons (pv 5) pa_nil)) (pv 5)))))))), ?_⟩
  try dsimp only [cxOf, Cx.nox, Cx.wish]
  repeat rw [st_cons]
  repeat rw [st_none]
  try rw [st_nn]
  have n0 := ok.n0
  have ev : ∀ j, j ≤ B.last → B.earlyV[j]? = some (V.int (B.st j)) := fun j hj => by
    unfold Bak.earlyV
    rw [List.getElem?_map, List.getElem?_map, List.getElem?_range (by omega)]
    rfl
  have el : ((B.earlyV.length : Nat) : Int) - 1 = (B.last : Nat) := by
    unfold Bak.earlyV
    simp
  walk_at "rd"
  refine r_lenL (sqL_at he) ?_
  walk_at "rd"
  rw [el]
  refine i2 (fun c => ?_) (fun c => ?_)
  · walk_at "rd"
    refine r_ixL (sqL_at he) rfl (ev d (by omega)) ?_
    exact k H sameR
  · obtain ⟨m, rfl⟩ : ∃ m, d = B.last + m := ⟨d - B.last, by omega⟩
    have em : ((B.last + m : Nat) : Int) - (B.last : Nat) = (m : Nat) := by omega
    have n1 := ok.n1
    walk_at "rd"
    rw [em]
    refine r_I ⟨by omega, by omega⟩ ?_
    walk_at "rd"
    rw [em]
    walk_at "rd"
    refine r_I (by omega) ?_
    walk_at "rd"
    have e1 : ((m : Nat) : Int) / (B.n : Nat) = ((m / B.n : Nat) : Int) := rfl
    have e2 : ((m : Nat) : Int) % (B.n : Nat) = ((m % B.n : Nat) : Int) := rfl
    have lt := Nat.mod_lt m n0
    have dm := Nat.div_add_mod m B.n
    rw [e1, e2]
    have key : ∀ H', Same H H' → Q (V.int (B.st (B.last + m))) H' := k
    have step : ∀ H', Same H H' → if decide (0 < ((m % B.n : Nat) : Int)) = true then
                  tMeth (He.ga K (Str.ofString "Effect")) (Str.ofString "end") (spEnd K) [] C8.E0
                      (tOp (rIxL K) (tFld K (tVar 0) (Str.ofString "prefixes")) (tVar 4)) (tCons (tVar 5) tNil)
          [some (.ref a), some (.int (B.last + m : Nat)), some (.int (B.last : Nat)), some (.int (m / B.n : Nat)), some (.int (m % B.n : Nat)), some (.int (B.st (B.last + m / B.n * B.n)))] H' Q else
                    tVar 5
          [some (.ref a), some (.int (B.last + m : Nat)), some (.int (B.last : Nat)), some (.int (m / B.n : Nat)), some (.int (m % B.n : Nat)), some (.int (B.st (B.last + m / B.n * B.n)))] H' Q := fun H' sm => by
      have hB2 := sm _ _ hB
      refine i2 (fun c => ?_) (fun c => ?_)
      · obtain ⟨v, hv⟩ : ∃ v, ps[m % B.n - 1]? = some v := ⟨_, List.getElem?_eq_getElem (by omega)⟩
        obtain ⟨p, g, rfl, ⟨dg, hg⟩, hr⟩ := hps _ _ hv
        have hg2 := sm _ _ hg
        walk_at "rd"
        refine r_ixL (sqL_at (sm _ _ hp)) rfl (j := m % B.n) (v := .ref p) ?_ ?_
        · have e3 : m % B.n = m % B.n - 1 + 1 := by omega
          rw [e3]
          exact hv
        walk_at "rd"
        have q := hr.later ok.last_ge (m / B.n)
        have e4 : g.fin (B.st (B.last + m / B.n * B.n)) = B.st (B.last + m) := by
          rw [q.fin, ← st_rf]
          congr 1
          rw [Nat.mul_comm] at dm
          omega
        rw [e4]
        exact key H' sm
      · walk_at "rd"
        have e4 : B.last + m / B.n * B.n = B.last + m := by
          rw [Nat.mul_comm] at dm
          omega
        rw [e4]
        exact key H' sm
    refine i2 (fun c2 => ?_) (fun c2 => ?_)
    · obtain ⟨v, hv⟩ : ∃ v, ps[B.n - 1]? = some v := ⟨_, List.getElem?_eq_getElem (by omega)⟩
      obtain ⟨p, g, rfl, ⟨dg, hg⟩, hr⟩ := hps _ _ hv
      walk_at "rd"
      refine r_ixLa (sqL_at hp) (v := .ref p) (at_m1 ?_) ?_
      · show (V.non :: ps)[ps.length + 1 - 1]? = _
        have e3 : ps.length + 1 - 1 = B.n - 1 + 1 := by omega
        rw [e3]
        exact hv
      walk_at "rd"
      refine use_pow hg (by omega) hr.ok fun p g2 H' sm ⟨dp, hp2⟩ hg2 => ?_
      have hB2 := sm _ _ hB
      walk_at "rd"
      refine r_ixL (sqL_at (sm _ _ he)) rfl (ev _ (Nat.le_refl _)) ?_
      walk_at "rd"
      have e3 : B.n - 1 + 1 = B.n := by omega
      rw [e3] at hr
      have e4 : g2.fin (B.st B.last) = B.st (B.last + m / B.n * B.n) := by
        rw [hg2.fin]
        exact (hr.rounds ok.last_ge (m / B.n)).1
      rw [e4]
      exact step H' sm
    · walk_at "rd"
      refine r_ixL (sqL_at he) rfl (ev _ (Nat.le_refl _)) ?_
      have e5 : m / B.n = 0 := Nat.le_zero.mp (Nat.not_lt.mp fun z => c2 (Int.ofNat_lt.mpr z))
      have z := step H sameR
      rw [e5, Nat.zero_mul] at z
      rw [e5]
      walk_at "rd"
      exact z
/-- the pair that tells when a bakery settles and its long run -/
def SetAt (K : PySem.W.Frag) (H : Hp) (B : Bak) (p : Addr) : Prop := ∃ (q : Addr) (D R : Nat), H p = some (.tup [.int (D : Nat), .ref q]) ∧ H q = some (.tup [.int (B.dems.sum - B.sm R B.n), .int (B.sm R B.n), .int (B.sh R B.n)]) ∧ Settled B D ∧ B.last ≤ R ∧ D ≤ R
theorem SetAt.mono {K : PySem.W.Frag} {H H' : Hp} {B : Bak} {p : Addr} (h : SetAt K H B p) (s : Same H H') : SetAt K H' B p :=
  let ⟨q, D, R, h1, h2, h3⟩ := h; ⟨q, D, R, s _ _ h1, s _ _ h2, h3⟩
def spSet (K : PySem.W.Frag) : Sp := fun vs H Q _ => ∃ (a : Addr) (B : Bak), vs = [.ref a] ∧ BakM K H a B ∧ ∀ p H', Same H H' → SetAt K H' B p → Q (.ref p) H'
theorem ok_settled_of {P : Program} {w : World} {K : PySem.W.Frag} {mg : Str → Option Value} {base : Heap} (T : Tx K mg) : C8.Cal P w K mg base 7 "settled_of" (spSet K) [] := by
  have G_rounds_to_settle := ok_rounds_to_settle (P := P) (w := w) (base := base) T
  have G_Bakery_start_of := ok_Bakery_start_of (P := P) (w := w) (base := base) T
  have G_Effect_missed := ok_Effect_missed (P := P) (w := w) (base := base) T
  have G_Effect_thrown := ok_Effect_thrown (P := P) (w := w) (base := base) T
  have G_Bakery_demands := ok_Bakery_demands (P := P) (w := w) (base := base) T
  refine cal_of (d := d_settled_of) (x := "settled_of") (fn_settled_of T) rfl rfl (fg_settled_of T) sc_settled_of (fun _ _ _ _ _ _ us hl => match us, hl with | [_], _ => rfl) (fun vs H Q E h => ?_) (fun cdv A outer s H vs Q E hr h => ?_)
  · obtain ⟨a, B, rfl, hM, k⟩ := h
    rfl
  obtain ⟨a, B, rfl, hM, k⟩ := h
  refine ⟨_, (pss_cons (ps_par (i := 1) (j := 2) (by rfl) sc_settled_of.nd rfl rfl (by decide) rfl rfl (pa_cons (pe_op op_sub (pe_callB cq_len (by rfl) (fn_len T) bb_len (pa_cons (pe_fld (pv 0) rfl) pa_nil)) pe_int) (pa_cons (pe_ix ix_list (pe_fld (pv 0) rfl) (pe_un un_neg pe_int) (fun _ _ => rfl)) pa_nil)) (by rfl))
      (pss_cons (ps_set (i := 3) sc_settled_of.nd rfl (Or.inl rfl) (pe_op op_add (pv 1) (pe_op op_mul (C8.pe_c G_rounds_to_settle hr (by decide) (by rfl) (pa_cons (pv 2) (pa_cons (pe_ix ix_list (pe_fld (pv 0) rfl) (pv 1) (fun _ _ => rfl)) pa_nil))) (pe_fld (pv 0) rfl))))
      (pss_cons (ps_set (i := 4) sc_settled_of.nd rfl (Or.inl rfl) (C8.pe_mt G_Bakery_start_of hr (by decide) (pv 0) (pa_cons (pv 3) pa_nil)))
      (pss_cons (ps_par (i := 5) (j := 6) (by rfl) sc_settled_of.nd rfl rfl (by decide) rfl rfl (pa_cons (C8.pe_mt G_Effect_missed hr (by decide) (pv 2) (pa_cons (pv 4) pa_nil)) (pa_cons (C8.pe_mt G_Effect_thrown hr (by decide) (pv 2) (pa_cons (pv 4) pa_nil)) pa_nil)) (by rfl))
      (pss_cons (ps_while PassesOwn.never (PW.pt (pw_and (pt_cmpR op_gt (pv 3) pe_int (nomark _)) (pw_and1 (pt_cmpR op_eqI (C8.pe_mt G_Bakery_start_of hr (by decide) (pv 0) (pa_cons (pe_op op_sub (pv 3) pe_int) pa_nil)) (C8.pe_mt G_Bakery_start_of hr (by decide) (pv 0) (pa_cons (pe_op op_add (pe_op op_sub (pv 3) pe_int) (pe_fld (pv 0) rfl)) pa_nil)) (nomark _))))) (pss_one (ps_aug (i := 3) sc_settled_of.nd rfl (Or.inl rfl) pe_int ip_sub)))
      (pss_one (ps_ret (pe_tup (pa_cons (pv 3) (pa_cons (pe_tup (pa_cons (pe_op op_sub (pe_callB (cr_sumT rfl) (by rfl) (fn_sum T) bb_sum (pa_cons (pe_pr G_Bakery_demands hr (by decide) (pv 0)) pa_nil)) (pv 5)) (pa_cons (pv 5) (pa_cons (pv 6) pa_nil)))) pa_nil)))))))))), ?_⟩
  try dsimp only [cxOf, Cx.nox, Cx.wish]
  repeat rw [st_cons]
  repeat rw [st_none]
  try rw [st_nn]
  obtain ⟨ok, dx, tb, tw, te, tr, tp, r, ps, hB, hq, hb, hw, he, hp, hl, hps⟩ := id hM
  have n0 := ok.n0
  have hq' : Rst (bakR te tr tp r) := bakR_rst hq
  have n1 := ok.n1
  have ev : ∀ j, j ≤ B.last → B.earlyV[j]? = some (V.int (B.st j)) := fun j hj => by
    unfold Bak.earlyV
    rw [List.getElem?_map, List.getElem?_map, List.getElem?_range (by omega)]
    rfl
  have el : ((B.earlyV.length : Nat) : Int) - 1 = (B.last : Nat) := by
    unfold Bak.earlyV
    simp
  obtain ⟨v, hv⟩ : ∃ v, ps[B.n - 1]? = some v := ⟨_, List.getElem?_eq_getElem (by omega)⟩
  obtain ⟨p, g, rfl, ⟨dg, hg⟩, hr⟩ := hps _ _ hv
  have e3 : B.n - 1 + 1 = B.n := by omega
  rw [e3] at hr
  obtain ⟨rr, hrr⟩ := settle_ex hr.ok (B.st B.last)
  have rd := hr.rounds ok.last_ge rr
  have later := hr.later ok.last_ge rr
  have fix : B.st (B.last + rr * B.n + B.n) = B.st (B.last + rr * B.n) := by
    have z := hrr.1
    rw [rd.1] at z
    rw [later.fin] at z
    rw [st_rf B (B.last + rr * B.n)]
    exact z
  have per := settles_from (Nat.le_trans ok.last_ge (Nat.le_add_right _ (rr * B.n))) fix
  walk_at "rd"
  refine r_lenL (sqL_at he) ?_
  walk_at "rd"
  rw [el]
  refine r_ixLa (sqL_at hp) (v := .ref p) (at_m1 ?_) ?_
  · show (V.non :: ps)[ps.length + 1 - 1]? = _
    have e4 : ps.length + 1 - 1 = B.n - 1 + 1 := by omega
    rw [e4]
    exact hv
  walk_at "rd"
  refine r_ixL (sqL_at he) rfl (ev _ (Nat.le_refl _)) ?_
  walk_at "rd"
  refine ⟨p, g, _, rr, rfl, ⟨dg, hg⟩, hr.ok, hrr, fun H1 s1 => ?_⟩
  have hB1 := s1 _ _ hB
  walk_at "rd"
  refine r_I (.inr (by omega)) ?_
  have e5 : ((B.last : Nat) : Int) + ((rr : Nat) : Int) * (B.n : Nat) = ((B.last + rr * B.n : Nat) : Int) := by
    rw [Int.natCast_add, Int.natCast_mul]
  walk_at "rd"
  rw [e5]
  refine ⟨a, B, _, rfl, hM.mono s1, fun H2 s2 => ?_⟩
  have s02 := sameT s1 s2
  have hg2 := s02 _ _ hg
  walk_at "rd"
  generalize hR : B.last + rr * B.n = R at *
  have em : g.mis (B.st R) = B.sm R B.n := by rw [later.mis, rm_sm]
  have et : g.thr (B.st R) = B.sh R B.n := by rw [later.thr, rt_sh]
  rw [em, et]
  refine ⟨fun m σ H' => ∃ (d : Nat), σ = [some (.ref a), some (.int (B.last : Nat)), some (.ref p), some (.int (d : Nat)), some (.int (B.st R)), some (.int (B.sm R B.n)), some (.int (B.sh R B.n))] ∧ d ≤ R ∧ m = d ∧ Same H H' ∧ ∀ j, d ≤ j → B.st (j + B.n) = B.st j, ⟨_, R, rfl, Nat.le_refl _, rfl, s02, per⟩, ?_⟩
  rintro d σ H' ⟨d', rfl, dR, rfl, sm, hd⟩
  have hB3 := sm _ _ hB
  have done : ∀ H', Same H H' → (0 < d → B.st (d - 1 + B.n) ≠ B.st (d - 1)) → tRet (tTup (tCons (tVar 3) (tCons (tTup (tCons (tOp (rI0 fun i j => V.int (i - j)) (tCB (rSumT K) (tCons (tProp (He.ga K "Bakery") (spDms K) [] C8.E0 (tVar 0)) tNil)) (tVar 5)) (tCons (tVar 5) (tCons (tVar 6) tNil)))) tNil)))
      { nx := fun x H' => Q V.non H', rt := Q } [some (.ref a), some (.int (B.last : Nat)), some (.ref p), some (.int (d : Nat)), some (.int (B.st R)), some (.int (B.sm R B.n)), some (.int (B.sh R B.n))] H' := fun H' sm hne => by
    have hB3 := sm _ _ hB
    walk_at "rd"
    refine r_propR hB3 ?_
    refine ⟨a, dx, tb, tw, B, _, rfl, hB3, ?_⟩
    walk_at "rd"
    refine r_sumT (same_sqT sm hw) ?_
    walk_at "rd"
    refine r_nwT (Nat.le_of_ble_eq_true rfl) fun q hq => ?_
    walk_at "rd"
    refine r_nwT (Nat.le_of_ble_eq_true rfl) fun q2 hq2 => ?_
    refine k _ _ (sameT sm (sameT (same_new hq) (same_new hq2))) ⟨q, d, R, upd_same, ?_, ⟨hd, hne⟩, by omega, dR⟩
    exact same_new hq2 _ _ upd_same
  walk_at "rd"
  refine i2 (fun c => ?_) (fun c => ?_)
  · walk_at "rd"
    have e6 : ((d : Nat) : Int) - 1 = ((d - 1 : Nat) : Int) := by omega
    rw [e6]
    refine ⟨a, B, _, rfl, hM.mono sm, fun H4 s4 => ?_⟩
    have hB4 := s4 _ _ hB3
    have sm4 := sameT sm s4
    walk_at "rd"
    have e7 : ((d : Nat) : Int) - 1 + (B.n : Nat) = ((d - 1 + B.n : Nat) : Int) := by omega
    rw [e7]
    refine ⟨a, B, _, rfl, hM.mono sm4, fun H5 s5 => ?_⟩
    have sm5 := sameT sm4 s5
    walk_at "rd"
    refine i2 (fun c2 => ?_) (fun c2 => ?_)
    · refine r_turn ?_
      walk_at "rd"
      rw [e6]
      refine ⟨_, (by omega : d - 1 < d), d - 1, rfl, by omega, rfl, sm5, fun j hj => ?_⟩
      by_cases ej : j = d - 1
      · subst ej
        exact c2.symm
      · exact hd j (by omega)
    · exact done H5 sm5 fun _ z => c2 z.symm
  · exact done H' sm fun z => absurd (Int.ofNat_lt.mpr z) c

end G57
end
section
set_option maxRecDepth 100000
set_option maxHeartbeats 4000000
namespace G57
open PySem PySem.Spec PyProof.Rows L2
/-! the walk's small steps: "rd" reads on as far as it can -/
local macro_rules | `(tactic| walk_at "fact") => `(tactic| fail)
local macro_rules | `(tactic| walk_at "rd1") => `(tactic| with_reducible first
  | (refine v_id ?_; first | refine r_var_0 ?_ | refine r_var_1 ?_ | refine r_var_2 ?_ | refine r_var_3 ?_ | refine r_var_4 ?_ | refine r_var_5 ?_ | refine r_var_6 ?_ | refine r_var_7 ?_ | refine r_var_8 ?_ | refine r_var_9 ?_ | refine r_var_10 ?_ | refine r_var_11 ?_ | refine r_var_12 ?_ | refine r_var_13 ?_ | refine r_var_14 ?_ | refine r_var_15 ?_ | refine r_var_16 ?_ | refine r_var_17 ?_ | refine r_var_18 ?_ | refine r_var_19 ?_ | refine r_var_20 ?_ | refine r_var_21 ?_ | refine r_var_22 ?_ | refine r_var_23 ?_ | refine r_var_24 ?_ | refine r_var_25 ?_ | refine r_var_26 ?_ | refine r_var_27 ?_ | refine r_var rfl ?_)
  | (refine s_id ?_; first | refine r_set_0 ?_ | refine r_set_1 ?_ | refine r_set_2 ?_ | refine r_set_3 ?_ | refine r_set_4 ?_ | refine r_set_5 ?_ | refine r_set_6 ?_ | refine r_set_7 ?_ | refine r_set_8 ?_ | refine r_set_9 ?_ | refine r_set_10 ?_ | refine r_set_11 ?_ | refine r_set_12 ?_ | refine r_set_13 ?_ | refine r_set_14 ?_ | refine r_set_15 ?_ | refine r_set_16 ?_ | refine r_set_17 ?_ | refine r_set_18 ?_ | refine r_set_19 ?_ | refine r_set_20 ?_ | refine r_set_21 ?_ | refine r_set_22 ?_ | refine r_set_23 ?_ | refine r_set_24 ?_ | refine r_set_25 ?_ | refine r_set_26 ?_ | refine r_set_27 ?_ | refine r_setU ?_)
  | refine r_c ?_
  | refine r_op ?_
  | refine r_I0 ?_
  | refine r_seq ?_
  | refine r_asg ?_
  | refine r_fld ?_
  | refine r_nil ?_
  | refine r_cons ?_
  | refine r_cb ?_
  | refine r_max ?_
  | refine r_min ?_
  | refine r_ret ?_
  | refine r_met ?_
  | refine r_call ?_
  | refine r_B ?_
  | refine r_test ?_
  | refine r_b' ?_
  | refine r_ifS ?_
  | refine r_if ?_
  | refine r_par ?_
  | refine r_par2 ?_
  | refine r_drop ?_
  | refine r_next ?_
  | refine r_make ?_
  | refine r_sfld ?_
  | refine r_int1 ?_
  | refine r_intb ?_
  | refine r_and ?_
  | refine r_or ?_
  | refine r_not ?_
  | refine r_chain ?_
  | refine r_isN ?_
  | refine r_notN ?_
  | refine r_un ?_
  | refine r_U ?_
  | refine r_par3 ?_
  | refine r_par33 ?_
  | refine r_tup ?_
  | refine r_lst ?_
  | refine r_prop ?_
  | refine r_bm ?_
  | refine r_bm0 ?_
  | refine r_andV ?_
  | refine r_orV ?_
  | refine r_notV ?_
  | refine r_asgG ?_
  | refine r_gname ?_
  | refine r_gcons ?_
  | refine r_gnil ?_
  | refine r_rng1 ?_
  | refine r_rng2 ?_
  | refine r_for ?_
  | refine r_lc1 ?_
  | refine r_lc2 ?_
  | refine r_lc3 ?_
  | refine r_lc ?_
  | refine r_while ?_
  | refine r_rev ?_
  | refine r_sl ?_
  | refine r_augS ?_
  | refine r_iL ?_
  | refine r_iT ?_
  | refine r_iE ?_
  | refine r_ipI ?_
  | refine r_aug rfl ?_
  | refine r_cval ?_
  | refine r_turnN ?_
  | refine iT ?_
  | refine iNT ?_
  | refine iNF ?_
  | refine iOF ?_
  | refine iF ?_
  | refine r_part ?_
  | refine r_pi ?_
  | refine r_gsub ?_
  | refine r_noPart ?_)
local macro_rules | `(tactic| walk_at "rd") => `(tactic| (repeat (first | walk_at "rd1" | walk_at "fact")))
local macro_rules | `(tactic| walk_at "plen") => `(tactic| (repeat (first | decide | refine putF_lt ?_)))
local macro_rules | `(tactic| walk_at "rs") => `(tactic| (repeat ((fail_if_success (with_reducible refine r_stop ?_)); (first | walk_at "rd1" | walk_at "fact"))))
local macro_rules | `(tactic| walk_at "fact") => `(tactic| with_reducible first
  | refine mE (by assumption) (mlk_end _) ?_
  | refine mE (by assumption) (mlk_missed _) ?_
  | refine mE (by assumption) (mlk_thrown _) ?_
  | refine mE (by assumption) (mlk_followed _) ?_
  | refine use_end (by assumption) ?_
  | refine use_mis (by assumption) ?_
  | refine use_thr (by assumption) ?_
  | refine use_fol (by assumption) (by assumption) ?_
  | refine fB_baking ‹_› (by assumption) ?_
  | refine fB_wishes ‹_› (by assumption) ?_
  | refine fB_days_kept ‹_› (by assumption) ?_
  | refine fB_size ‹_› (by assumption) ?_
  | refine fB_early ‹_› (by assumption) ?_
  | refine fB_round ‹_› (by assumption) ?_
  | refine fB_prefixes ‹_› (by assumption) ?_
  | refine mB (by assumption) (by assumption) (by decide) ?_)
/-- a Bakery, whole; te, tp its two lists -/
def BakAtF (K : PySem.W.Frag) (H : Hp) (a : Addr) (B : Bak) (te tp : Addr) : Prop := B.Ok ∧ ∃ dx tb tw tr ts ps, H a = some (.ins (He.ga K "Bakery") dx (bakF tb tw B (bakR te tr tp [("settled", .ref ts)]))) ∧ SqT K H tb (B.bakes.map V.int) ∧ SqT K H tw (B.dems.map V.int) ∧
  H te = some (.lst B.earlyV) ∧ H tp = some (.lst (.non :: ps)) ∧ ps.length = B.n ∧ (∀ (k : Nat) v, ps[k]? = some v → PreAt K H B k v) ∧ SetAt K H B ts
def BakAt (K : PySem.W.Frag) (H : Hp) (a : Addr) (B : Bak) : Prop := B.Ok ∧ ∃ dx tb tw te tr tp ts ps, H a = some (.ins (He.ga K "Bakery") dx (bakF tb tw B (bakR te tr tp [("settled", .ref ts)]))) ∧ SqT K H tb (B.bakes.map V.int) ∧ SqT K H tw (B.dems.map V.int) ∧
  H te = some (.lst B.earlyV) ∧ H tp = some (.lst (.non :: ps)) ∧ ps.length = B.n ∧ (∀ (k : Nat) v, ps[k]? = some v → PreAt K H B k v) ∧ SetAt K H B ts
theorem BakAtF.at {K : PySem.W.Frag} {H : Hp} {a : Addr} {B : Bak} {te tp : Addr} (h : BakAtF K H a B te tp) : BakAt K H a B := by
  obtain ⟨ok, dx, tb, tw, tr, ts, ps, h⟩ := h
  exact ⟨ok, dx, tb, tw, te, tr, tp, ts, ps, h⟩
theorem BakAtF.mono {K : PySem.W.Frag} {H H' : Hp} {a : Addr} {B : Bak} {te tp : Addr} (h : BakAtF K H a B te tp) (s : Same H H') : BakAtF K H' a B te tp := by
  obtain ⟨ok, dx, tb, tw, tr, ts, ps, hB, hb, hw, he, hp, hl, hps, hs⟩ := h
  refine ⟨ok, dx, tb, tw, tr, ts, ps, s _ _ hB, same_sqT s hb, same_sqT s hw, s _ _ he, s _ _ hp, hl, fun k v e => ?_, hs.mono s⟩
  obtain ⟨p, g, z, q, i⟩ := hps k v e
  exact ⟨p, g, z, q.mono s, i⟩
/-- a Bakery outlives draws -/
theorem BakAtF.sd {K : PySem.W.Frag} {H H' : Hp} {a : Addr} {B : Bak} {te tp h l : Addr} (b : BakAtF K H a B te tp) (s : SameD h l H H') (hat : Hat H h l) (n1 : te ≠ h ∧ te ≠ l) (n2 : tp ≠ h ∧ tp ≠ l) : BakAtF K H' a B te tp := by
  obtain ⟨ok, dx, tb, tw, tr, ts, ps, hB, hb, hw, he, hp, hl, hps, q, D, R, h1, h2, h3⟩ := b
  have ins : ∀ {p C dx : Addr} {fs : List (Str × V)}, H p = some (.ins C dx fs) → H' p = some (.ins C dx fs) := fun {p C dx fs} e => by
    obtain ⟨m, c, ys, e1, e2, _⟩ := hat
    refine s p _ (fun z => ?_) (fun z => ?_) e
    · subst z
      rw [e] at e1
      cases e1
    · subst z
      rw [e] at e2
      cases e2
  refine ⟨ok, dx, tb, tw, tr, ts, ps, ins hB, s.sqT hat hb, s.sqT hat hw, s _ _ n1.1 n1.2 he, s _ _ n2.1 n2.2 hp, hl, fun k v e => ?_, q, D, R, s.tup hat h1, s.tup hat h2, h3⟩
  obtain ⟨p, g, z, ⟨dg, q⟩, i⟩ := hps k v e
  exact ⟨p, g, z, ⟨dg, ins q⟩, i⟩
theorem rst_settled {ts : Addr} : Rst [("settled", V.ref ts)] := by
  show (bakMs.all fun m => (List.lookup m [(("settled" : Str), V.ref ts)]).isNone) = true
  kernel_rfl
theorem BakAt.m {K : PySem.W.Frag} {H : Hp} {a : Addr} {B : Bak} (h : BakAt K H a B) : BakM K H a B := by
  obtain ⟨ok, dx, tb, tw, te, tr, tp, ts, ps, hB, hb, hw, he, hp, hl, hps, _⟩ := h
  exact ⟨ok, dx, tb, tw, te, tr, tp, _, ps, hB, rst_settled, hb, hw, he, hp, hl, hps⟩
theorem BakAt.mono {K : PySem.W.Frag} {H H' : Hp} {a : Addr} {B : Bak} (h : BakAt K H a B) (s : Same H H') : BakAt K H' a B := by
  obtain ⟨ok, dx, tb, tw, te, tr, tp, ts, ps, hB, hb, hw, he, hp, hl, hps, hs⟩ := h
  refine ⟨ok, dx, tb, tw, te, tr, tp, ts, ps, s _ _ hB, same_sqT s hb, same_sqT s hw, s _ _ he, s _ _ hp, hl, fun k v e => ?_, hs.mono s⟩
  obtain ⟨p, g, z, q, i⟩ := hps k v e
  exact ⟨p, g, z, q.mono s, i⟩
theorem eff_ne {K : PySem.W.Frag} {H : Hp} {q p dx tb tw C : Addr} {B : Bak} {r : List (Str × V)} {e : Eff} (h : EffAt K H q e) (hp : H p = some (.ins C dx (bakF tb tw B r))) : q ≠ p := fun z => by
  obtain ⟨dq, h⟩ := h
  subst z
  rw [hp] at h
  have z2 := congrArg (fun o => match o with | some (HO.ins _ _ ((f, _) :: _)) => f | _ => "") h
  exact absurd z2 (by show ¬ (("baking" : Str) = ("shift" : Str)); decide)
theorem tup_ne {H : Hp} {q p dx C : Addr} {fs : List (Str × V)} {xs : List V} (h : H q = some (.tup xs)) (hp : H p = some (.ins C dx fs)) : q ≠ p := fun z => by
  subst z
  rw [hp] at h
  cases h
def spBakInit (K : PySem.W.Frag) : Sp := fun vs H Q _ => ∃ (p dx tb tw : Addr) (B : Bak), vs = [.ref p, .ref tb, .ref tw, .int B.life] ∧ H p = some (.ins (He.ga K "Bakery") dx []) ∧ SqT K H tb (B.bakes.map V.int) ∧ SqT K H tw (B.dems.map V.int) ∧ B.Ok ∧
  ∀ H' te tp, SameX p H H' → H te = none → H tp = none → BakAtF K H' p B te tp → Q .non H'
theorem sqT_sameX {K : PySem.W.Frag} {H H' : Hp} {p dx C : Addr} {fs : List (Str × V)} {a : Addr} {xs : List V} (hp : H p = some (.ins C dx fs)) (s : SameX p H H') (h : SqT K H a xs) : SqT K H' a xs := by
  have ne : ∀ o : HO, H a = some o → (∀ C dx fs, o ≠ .ins C dx fs) → a ≠ p := fun o e n z => by
    subst z
    rw [hp] at e
    exact n _ _ _ (Option.some.inj e).symm
  rcases h with (h | ⟨o, h⟩) | h
  · exact .inl (.inl (s _ _ (ne _ h fun _ _ _ z => by cases z) h))
  · exact .inl (.inr ⟨o, s _ _ (ne _ h fun _ _ _ z => by cases z) h⟩)
  · exact .inr h
theorem lkB_early1 {tb tw te : Addr} {B : Bak} {r : List (Str × V)} : (bakF tb tw B (("early", .ref te) :: r)).lookup ("early" : Str) = some (V.ref te) := by kernel_rfl
theorem fB_early1 {K : PySem.W.Frag} {mg : Str → Option Value} (T : Tx K mg) {H : Hp} {a dx tb tw te : Addr} {B : Bak} {r : List (Str × V)} {Q : VK} (h : H a = some (.ins (He.ga K "Bakery") dx (bakF tb tw B (("early", .ref te) :: r)))) (q : Q (.ref te) H) : FldR K "early" Q (.ref a) H := r_fldR h (fc_Bakery T) (fna_Bakery_early T) lkB_early1 q
theorem rst_0 : Rst [] := rfl
theorem rst_1 {te : Addr} : Rst [("early", V.ref te)] := by
  show (bakMs.all fun m => (List.lookup m [(("early" : Str), V.ref te)]).isNone) = true
  kernel_rfl
theorem rst_2 {te tr : Addr} : Rst [("early", V.ref te), ("round", V.ref tr)] := by
  show (bakMs.all fun m => (List.lookup m [(("early" : Str), V.ref te), (("round" : Str), V.ref tr)]).isNone) = true
  kernel_rfl
def Bak.earlyN (B : Bak) (j : Nat) : List V := ((List.range (j + 1)).map B.st).map V.int
theorem earlyN_len (B : Bak) (j : Nat) : (B.earlyN j).length = j + 1 := by
  unfold Bak.earlyN
  simp
theorem earlyN_next (B : Bak) (j : Nat) : B.earlyN j ++ [V.int (B.st (j + 1))] = B.earlyN (j + 1) := by
  unfold Bak.earlyN
  rw [List.range_succ (n := j + 1)]
  simp
theorem earlyN_at (B : Bak) (j : Nat) : (B.earlyN j)[(B.earlyN j).length - 1]? = some (V.int (B.st j)) := by
  rw [earlyN_len]
  unfold Bak.earlyN
  simp
local macro_rules | `(tactic| walk_at "fact") => `(tactic| with_reducible first
  | refine fB_early1 ‹_› (by assumption) ?_
  | refine r_tyL (sqL_at (by assumption)) ?_
  | refine r_lenL (sqL_at (by assumption)) ?_)
theorem ok_Bakery_init {P : Program} {w : World} {K : PySem.W.Frag} {mg : Str → Option Value} {base : Heap} (T : Tx K mg) : C8.Mak P w K mg base 8 "Bakery" (He.ga K "Bakery") (spBakInit K) [] := by
  have G_validate_amounts := ok_validate_amounts (P := P) (w := w) (base := base) T
  have G_Bakery_effect_of := ok_Bakery_effect_of (P := P) (w := w) (base := base) T
  have G_Effect_end := ok_Effect_end (P := P) (w := w) (base := base) T
  have G_Effect_followed := ok_Effect_followed (P := P) (w := w) (base := base) T
  have G_settled_of := ok_settled_of (P := P) (w := w) (base := base) T
  refine mak_of (d := d_Bakery_init) (C := "Bakery") (fn_Bakery_init T) rfl rfl (fg_Bakery T) (fmk_Bakery T) sc_Bakery_init (fun _ _ _ _ _ _ us hl => match us, hl with | [_, _, _, _], _ => rfl) (fun vs H Q E h => ?_) (fun cdv A outer s H vs Q E hr h => ?_)
  · obtain ⟨p, dx, tb, tw, B, rfl, hp, hb, hw, ok, k⟩ := h
    rfl
  obtain ⟨p, dx, tb, tw, B, rfl, hp, hb, hw, ok, k⟩ := h
  refine ⟨_, (pss_cons (ps_expr (C8.pe_c G_validate_amounts hr (by decide) (by rfl) (pa_cons pe_str (pa_cons (pv 1) pa_nil))))
      (pss_cons (ps_if (pt_cmpR (op_eqD hr.units) (pv 1) (pe_tup pa_nil) (nomark _)) (pss_one ps_never) pss_nil)
      (pss_cons (ps_expr (C8.pe_c G_validate_amounts hr (by decide) (by rfl) (pa_cons pe_str (pa_cons (pv 2) pa_nil))))
      (pss_cons (ps_if (pt_cmpR op_neI (pe_callB cq_len (by rfl) (fn_len T) bb_len (pa_cons (pv 2) pa_nil)) (pe_callB cq_len (by rfl) (fn_len T) bb_len (pa_cons (pv 1) pa_nil)) (nomark _)) (pss_one ps_never) pss_nil)
      (pss_cons (ps_if (pt_not (pt_chain op_le op_le pe_int (pv 3) (ClX.pe_cval (pe_glob (v := .ref (He.ga K "Bakery")) rfl (fg_Bakery T) rfl)))) (pss_one ps_never) pss_nil)
      (pss_cons (ps_fld (pv 0) (pv 1) rfl)
      (pss_cons (ps_fld (pv 0) (pv 2) rfl)
      (pss_cons (ps_fld (pv 0) (pv 3) rfl)
      (pss_cons (ps_fld (pv 0) (pe_callB cq_len (by rfl) (fn_len T) bb_len (pa_cons (pv 1) pa_nil)) rfl)
      (pss_cons (ps_fld (pv 0) (pe_lst (pa_cons pe_int pa_nil)) rfl)
      (pss_cons (ps_while PassesOwn.never (PW.pt (pw_or (pt_cmpR op_lt (pe_callB cq_len (by rfl) (fn_len T) bb_len (pa_cons (pe_fld (pv 0) rfl) pa_nil)) (pv 3) (nomark _)) (pw_or1 (pt_cmpR op_neI (pe_op op_mod (pe_callTy cq_int (by rfl) (fn_int T) bb_int (pa_cons (pe_op op_sub (pe_callB cq_len (by rfl) (fn_len T) bb_len (pa_cons (pe_fld (pv 0) rfl) pa_nil)) pe_int) pa_nil)) (pe_fld (pv 0) rfl)) pe_int (nomark _))))) (pss_one (ps_expr (pe_bm PySem.F.plainAttrs_list PySem.F.slot_list_append PySem.F.type_list_append mt_append (pe_fld (pv 0) rfl) (pa_cons (C8.pe_mt G_Effect_end hr (by decide) (C8.pe_mt G_Bakery_effect_of hr (by decide) (pv 0) (pa_cons (pe_op op_sub (pe_callB cq_len (by rfl) (fn_len T) bb_len (pa_cons (pe_fld (pv 0) rfl) pa_nil)) pe_int) pa_nil)) (pa_cons (pe_ix ix_list (pe_fld (pv 0) rfl) (pe_un un_neg pe_int) (fun _ _ => rfl)) pa_nil)) pa_nil)))))
      (pss_cons (ps_fld (pv 0) (pe_lc (own := [("day", 4)]) (by rfl) sc_Bakery_init.nd (pi_range1 (by rfl) (fn_range T) (pa_cons (pe_fld (pv 0) rfl) pa_nil)) (blkOk_by (own := [("day", 4)]) (N := ["self", "bakes", "demands", "life", "day", "effect", "last"]) (sc := defScope s_Bakery_init) (by decide +kernel)) (fun _ _ _ _ _ => (pg_name (i := 4) sc_Bakery_init.nd rfl (Or.inl rfl))) (fun _ _ _ _ _ => pts_nil) (fun _ _ _ _ _ => by exact (C8.pe_mt G_Bakery_effect_of hr (by decide) (pv 0) (pa_cons (pe_op op_add (pe_op op_sub (pe_callB (callK (K := K) rfl cq_len) (by rfl) (fn_len T) bb_len (pa_cons (pe_fldK (K := K) rfl (pv 0) rfl) pa_nil)) pe_int) (pv 4)) pa_nil)))) rfl)
      (pss_cons (ps_fld (pv 0) (pe_lst (pa_cons pe_non pa_nil)) rfl)
      (pss_cons (ps_for PassesOwn.never rfl (pi_list (pe_fld (pv 0) rfl)) (pg_name (i := 5) sc_Bakery_init.nd rfl (Or.inl rfl)) (pss_cons (ps_set (i := 6) sc_Bakery_init.nd rfl (Or.inl rfl) (pe_ix ix_list (pe_fld (pv 0) rfl) (pe_un un_neg pe_int) (fun _ _ => rfl)))
      (pss_one (ps_expr (pe_bm PySem.F.plainAttrs_list PySem.F.slot_list_append PySem.F.type_list_append mt_append (pe_fld (pv 0) rfl) (pa_cons (pe_ifExp (pt_cmp (pc_isN (pv 6))) (pv 5) (C8.pe_mt G_Effect_followed hr (by decide) (pv 6) (pa_cons (pv 5) pa_nil))) pa_nil))))))
      (pss_one (ps_fld (pv 0) (C8.pe_c G_settled_of hr (by decide) (by rfl) (pa_cons (pv 0) pa_nil)) rfl)))))))))))))))), ?_⟩
  try dsimp only [cxOf, Cx.nox, Cx.wish]
  repeat rw [st_cons]
  repeat rw [st_none]
  try rw [st_nn]
  have n0 := ok.n0
  have n1 := ok.n1
  walk_at "rd"
  refine ⟨_, tb, B.bakes, rfl, hb, n1, ok.b, fun H1 s1 => ?_⟩
  walk_at "rd"
  refine r_nwT (Nat.le_of_ble_eq_true rfl) fun q hq => ?_
  have s2 := sameT s1 (same_new hq (o := .tup []))
  generalize hH2 : upd H1 q (.tup []) = H2 at s2 ⊢
  refine r_eqTI (ns := B.bakes) (ms := []) (same_sqT s2 hb) (sqT_at (by rw [← hH2]; exact upd_same)) ?_
  walk_at "rd"
  have nn : ¬ B.bakes = [] := fun z => by
    unfold Bak.n at n0
    rw [z] at n0
    exact absurd n0 (by decide)
  refine iN nn ?_
  walk_at "rd"
  refine ⟨_, tw, B.dems, rfl, same_sqT s2 hw, by rw [ok.m]; exact n1, ok.d, fun H3 s3 => ?_⟩
  have s03 := sameT s2 s3
  clear hH2
  walk_at "rd"
  refine r_lenT (same_sqT s03 hw) ?_
  walk_at "rd"
  refine r_lenT (same_sqT s03 hb) ?_
  walk_at "rd"
  refine iN' (by rw [List.length_map, List.length_map, ok.m]; rfl) ?_
  walk_at "rd"
  refine iY ok.l0 ?_
  walk_at "rd"
  refine r_cvalR (fcv_Bakery_MAX_LIFE T) ?_
  walk_at "rd"
  refine iN' ok.l1 ?_
  walk_at "rd"
  have hp3 := s03 _ _ hp
  have hb3 := same_sqT s03 hb
  have hw3 := same_sqT s03 hw
  have x3 : SameX p H H3 := SameX.of s03
  refine r_sfldR hp3 (fc_Bakery T) (fna_Bakery_baking T) (by decide) ?_
  walk_at "rd"
  refine r_sfldU (fc_Bakery T) (fna_Bakery_wishes T) (by walk_at "plen") ?_
  walk_at "rd"
  refine r_sfldU (fc_Bakery T) (fna_Bakery_days_kept T) (by walk_at "plen") ?_
  walk_at "rd"
  refine r_lenT (sqT_sameX hp3 (SameX.at (SameX.of sameR)) hb3) ?_
  walk_at "rd"
  refine r_sfldU (fc_Bakery T) (fna_Bakery_size T) (by walk_at "plen") ?_
  walk_at "rd"
  have e4 : putF "size" (V.int ((B.bakes.map V.int).length : Nat)) (putF "days_kept" (.int B.life) (putF "wishes" (.ref tw) (putF "baking" (.ref tb) []))) = bakF tb tw B [] := by
    rw [List.length_map]
    kernel_rfl
  rw [e4]
  have x4 : SameX p H (upd H3 p (.ins (He.ga K "Bakery") dx (bakF tb tw B []))) := x3.at
  have hp4 : (upd H3 p (.ins (He.ga K "Bakery") dx (bakF tb tw B []))) p = some (.ins (He.ga K "Bakery") dx (bakF tb tw B [])) := upd_same
  generalize upd H3 p (.ins (He.ga K "Bakery") dx (bakF tb tw B [])) = H4 at x4 hp4 ⊢
  refine r_nwL (Nat.le_of_ble_eq_true rfl) fun te hte => ?_
  have ntp : te ≠ p := fun z => by
    subst z
    rw [hp4] at hte
    cases hte
  have hte0 : H te = none := x4.none ntp hte
  have hp5 : (upd H4 te (.lst [.int 0])) p = some (.ins (He.ga K "Bakery") dx (bakF tb tw B [])) := by
    rw [upd_ne ntp.symm]
    exact hp4
  have x5 : SameX p H (upd H4 te (.lst [.int 0])) := x4.mut hte0
  have h5 : (upd H4 te (.lst [.int 0])) te = some (.lst (B.earlyN 0)) := upd_same
  generalize upd H4 te (.lst [.int 0]) = H5 at x5 hp5 h5 ⊢
  walk_at "rd"
  refine r_sfldR hp5 (fc_Bakery T) (fna_Bakery_early T) (by show 4 < 1000; decide) ?_
  have e6 : putF "early" (V.ref te) (bakF tb tw B []) = bakF tb tw B [("early", .ref te)] := by kernel_rfl
  rw [e6]
  walk_at "rd"
  refine ⟨fun m σ H' => ∃ j, j ≤ B.last ∧ m = B.last - j ∧ σ = [some (.ref p), some (.ref tb), some (.ref tw), some (.int B.life), none, none, none] ∧ H' p = some (.ins (He.ga K "Bakery") dx (bakF tb tw B [("early", .ref te)])) ∧ H' te = some (.lst (B.earlyN j)) ∧ SameX p H H', ⟨_, 0, Nat.zero_le _, rfl, rfl, upd_same, by rw [upd_ne ntp]; exact h5, x5.at⟩, ?_⟩
  rintro m σ H' ⟨j, hj, rfl, rfl, hpJ, hteJ, xJ⟩
  have hr1 := rst_1 (te := te)
  have hbJ := sqT_sameX hp xJ hb
  have hwJ := sqT_sameX hp xJ hw
  have el := earlyN_len B j
  have lg := ok.last_ge
  have l0 := ok.l0
  have l1 := ok.l1
  walk_at "rd"
  rw [el]
  by_cases ej : j = B.last
  · subst ej
    refine iN (by omega) ?_
    walk_at "rd"
    rw [el]
    have e7 : ((B.last + 1 : Nat) : Int) - 1 = (B.last : Nat) := by omega
    rw [e7]
    refine r_I (by omega) ?_
    walk_at "rd"
    have e8 : ((B.last : Nat) : Int) % (B.n : Nat) = 0 := by
      have z := ok.last_mod
      omega
    refine iN' e8 ?_
    walk_at "rd"
    refine ⟨_, rfl, by omega, by omega, ?_⟩
    refine lcN_range (fun i v H' => ∃ q, v = .ref q ∧ EffAt K H' q (B.eff ((B.last + i : Nat) : Int))) (fun _ _ => Stab.ex fun _ => Stab.and Stab.triv Stab.eff) (Nat.le_trans (show _ ≤ 100 by omega) (by decide)) (fun _ => rfl) (fun i H' Z hi sm z => ?_) fun tr H6 ys htr sm htr6 len hys => ?_
    · have hpI := sm _ _ hpJ
      have hteI := sm _ _ hteJ
      walk_at "rd"
      rw [el, e7, Int.zero_add]
      refine ⟨p, B, ((B.last : Nat) : Int) + (i : Nat), rfl, ⟨ok, dx, tb, tw, _, hpI, hr1, same_sqT sm hbJ, same_sqT sm hwJ⟩, fun q H2 s2 hq2 => ?_⟩
      exact z _ _ s2 ⟨q, rfl, hq2⟩
    have hp6 := sm _ _ hpJ
    have hte6 := sm _ _ hteJ
    have x6 := xJ.tr sm
    have ntr : tr ≠ p := fun z => by
      subst z
      rw [hpJ] at htr
      cases htr
    have hys0 : ∀ (i : Nat) (y : V), ys[i]? = some y → ∃ q, y = .ref q ∧ q ≠ p ∧ EffAt K H6 q (B.eff ((B.last + i : Nat) : Int)) := fun i y e => by
      obtain ⟨q, e1, dq, e2⟩ := hys i y e
      refine ⟨q, e1, fun z => ?_, dq, e2⟩
      subst z
      rw [hp6] at e2
      have z2 := congrArg (fun o => match o with | some (HO.ins _ _ ((f, _) :: _)) => f | _ => "") e2
      exact absurd z2 (by show ¬ (("baking" : Str) = ("shift" : Str)); decide)
    walk_at "rd"
    refine r_sfldR hp6 (fc_Bakery T) (fna_Bakery_round T) (by show 5 < 1000; decide) ?_
    have e9 : putF "round" (V.ref tr) (bakF tb tw B [("early", .ref te)]) = bakF tb tw B [("early", .ref te), ("round", .ref tr)] := by kernel_rfl
    rw [e9]
    have nte : te ≠ tr := fun z => by
      subst z
      rw [hteJ] at htr
      cases htr
    have hp7 : (upd H6 p (.ins (He.ga K "Bakery") dx (bakF tb tw B [("early", .ref te), ("round", .ref tr)]))) p = some (.ins (He.ga K "Bakery") dx (bakF tb tw B [("early", .ref te), ("round", .ref tr)])) := upd_same
    have x7 : SameX p H (upd H6 p (.ins (He.ga K "Bakery") dx (bakF tb tw B [("early", .ref te), ("round", .ref tr)]))) := x6.at
    have hte7 : (upd H6 p (.ins (He.ga K "Bakery") dx (bakF tb tw B [("early", .ref te), ("round", .ref tr)]))) te = some (.lst (B.earlyN B.last)) := by
      rw [upd_ne ntp]
      exact hte6
    have htr7 : (upd H6 p (.ins (He.ga K "Bakery") dx (bakF tb tw B [("early", .ref te), ("round", .ref tr)]))) tr = some (.lst ys) := by
      rw [upd_ne ntr]
      exact htr6
    have hys7 : ∀ (i : Nat) (y : V), ys[i]? = some y → ∃ q, y = .ref q ∧ q ≠ p ∧ EffAt K (upd H6 p (.ins (He.ga K "Bakery") dx (bakF tb tw B [("early", .ref te), ("round", .ref tr)]))) q (B.eff ((B.last + i : Nat) : Int)) := fun i y e => by
      obtain ⟨q, e1, nq, dq, e2⟩ := hys0 i y e
      exact ⟨q, e1, nq, dq, by rw [upd_ne nq]; exact e2⟩
    generalize upd H6 p (.ins (He.ga K "Bakery") dx (bakF tb tw B [("early", .ref te), ("round", .ref tr)])) = H7 at hp7 x7 hte7 htr7 hys7 ⊢
    walk_at "rd"
    refine r_nwL (Nat.le_of_ble_eq_true rfl) fun tp htp => ?_
    have ntp2 : tp ≠ p := fun z => by
      subst z
      rw [hp7] at htp
      cases htp
    have htp0 : H tp = none := x7.none ntp2 htp
    have s8 : Same H7 (upd H7 tp (.lst [.non])) := same_new htp
    have htp8 : (upd H7 tp (.lst [.non])) tp = some (.lst [.non]) := upd_same
    generalize upd H7 tp (.lst [.non]) = H8 at s8 htp8 ⊢
    walk_at "rd"
    refine r_sfldR (s8 _ _ hp7) (fc_Bakery T) (fna_Bakery_prefixes T) (by show 6 < 1000; decide) ?_
    have e10 : putF "prefixes" (V.ref tp) (bakF tb tw B [("early", .ref te), ("round", .ref tr)]) = bakF tb tw B (bakR te tr tp []) := by kernel_rfl
    rw [e10]
    have hp9 : (upd H8 p (.ins (He.ga K "Bakery") dx (bakF tb tw B (bakR te tr tp [])))) p = some (.ins (He.ga K "Bakery") dx (bakF tb tw B (bakR te tr tp []))) := upd_same
    have x9 : SameX p H (upd H8 p (.ins (He.ga K "Bakery") dx (bakF tb tw B (bakR te tr tp [])))) := (x7.tr s8).at
    have hte9 : (upd H8 p (.ins (He.ga K "Bakery") dx (bakF tb tw B (bakR te tr tp [])))) te = some (.lst (B.earlyN B.last)) := by
      rw [upd_ne ntp]
      exact s8 _ _ hte7
    have htr9 : (upd H8 p (.ins (He.ga K "Bakery") dx (bakF tb tw B (bakR te tr tp [])))) tr = some (.lst ys) := by
      rw [upd_ne ntr]
      exact s8 _ _ htr7
    have htp9 : (upd H8 p (.ins (He.ga K "Bakery") dx (bakF tb tw B (bakR te tr tp [])))) tp = some (.lst [.non]) := by
      rw [upd_ne ntp2]
      exact htp8
    have hys9 : ∀ (i : Nat) (y : V), ys[i]? = some y → ∃ q, y = .ref q ∧ q ≠ p ∧ EffAt K (upd H8 p (.ins (He.ga K "Bakery") dx (bakF tb tw B (bakR te tr tp [])))) q (B.eff ((B.last + i : Nat) : Int)) := fun i y e => by
      obtain ⟨q, e1, nq, dq, e2⟩ := hys7 i y e
      exact ⟨q, e1, nq, dq, by rw [upd_ne nq]; exact s8 _ _ e2⟩
    have ntep : te ≠ tp := fun z => by
      subst z
      rw [hte7] at htp
      cases htp
    have ntrp : tr ≠ tp := fun z => by
      subst z
      rw [htr7] at htp
      cases htp
    generalize upd H8 p (.ins (He.ga K "Bakery") dx (bakF tb tw B (bakR te tr tp []))) = H9 at hp9 x9 hte9 htr9 htp9 hys9 ⊢
    walk_at "rd"
    refine ⟨_, rfl, ⟨_, sqL_at htr9⟩, ?_⟩
    refine fR_list (xs := ys) (fun i σ H' => ∃ (x y : Option V) (ps : List V), σ = [some (.ref p), some (.ref tb), some (.ref tw), some (.int B.life), none, x, y] ∧ H' p = some (.ins (He.ga K "Bakery") dx (bakF tb tw B (bakR te tr tp []))) ∧ H' te = some (.lst (B.earlyN B.last)) ∧ H' tr = some (.lst ys) ∧
      H' tp = some (.lst (.non :: ps)) ∧ ps.length = i ∧ (∀ (k : Nat) v, ps[k]? = some v → PreAt K H' B k v) ∧ SameX p H H' ∧ ∀ (i : Nat) (y : V), ys[i]? = some y → ∃ q, y = .ref q ∧ EffAt K H' q (B.eff ((B.last + i : Nat) : Int)))
      ⟨none, none, [], rfl, hp9, hte9, htr9, htp9, rfl, fun k v e => by simp at e, x9, fun i y e => let ⟨q, e1, _, e2⟩ := hys9 i y e; ⟨q, e1, e2⟩⟩ (fun i σ H' _ w => let ⟨_, _, _, _, _, _, h, _⟩ := w; sqL_at h) ?_ ?_
    · rintro i v σ H' hv ⟨x, y, ps, rfl, hpA, hteA, htrA, htpA, pl, hps, xA, hysA⟩
      obtain ⟨q, rfl, dq, hq⟩ := hysA i v hv
      have il : i < ys.length := (List.getElem?_eq_some_iff.mp hv).1
      have fin2 : ∀ (nv : V) (H2 : Hp) (y : Option V), Same H' H2 → PreAt K H2 B i nv → ∃ (x y' : Option V) (ps' : List V), [some (V.ref p), some (.ref tb), some (.ref tw), some (.int B.life), none, some (V.ref q), y] = [some (.ref p), some (.ref tb), some (.ref tw), some (.int B.life), none, x, y'] ∧ (upd H2 tp (.lst ((.non :: ps) ++ [nv]))) p = some (.ins (He.ga K "Bakery") dx (bakF tb tw B (bakR te tr tp []))) ∧ (upd H2 tp (.lst ((.non :: ps) ++ [nv]))) te = some (.lst (B.earlyN B.last)) ∧ (upd H2 tp (.lst ((.non :: ps) ++ [nv]))) tr = some (.lst ys) ∧
          (upd H2 tp (.lst ((.non :: ps) ++ [nv]))) tp = some (.lst (.non :: ps')) ∧ ps'.length = i + 1 ∧ (∀ (k : Nat) v, ps'[k]? = some v → PreAt K (upd H2 tp (.lst ((.non :: ps) ++ [nv]))) B k v) ∧ SameX p H (upd H2 tp (.lst ((.non :: ps) ++ [nv]))) ∧ ∀ (i : Nat) (y : V), ys[i]? = some y → ∃ q, y = .ref q ∧ EffAt K (upd H2 tp (.lst ((.non :: ps) ++ [nv]))) q (B.eff ((B.last + i : Nat) : Int)) := fun nv H2 y s2 pre => by
        have e2 := s2 _ _ htpA
        refine ⟨_, y, ps ++ [nv], rfl, by rw [upd_ne ntp2.symm]; exact s2 _ _ hpA, by rw [upd_ne ntep]; exact s2 _ _ hteA, by rw [upd_ne ntrp]; exact s2 _ _ htrA, upd_same, by simp [pl], fun k v e => ?_, (xA.tr s2).mut htp0, fun i y e => ?_⟩
        · have old : PreAt K H2 B k v := by
            rcases Nat.lt_trichotomy k ps.length with lt | eq | gt
            · rw [List.getElem?_append_left lt] at e
              obtain ⟨q, g, e1, e2, e3⟩ := hps k v e
              exact ⟨q, g, e1, e2.mono s2, e3⟩
            · subst eq
              rw [List.getElem?_append_right (Nat.le_refl _)] at e
              simp at e
              subst e
              rw [pl]
              exact pre
            · rw [List.getElem?_eq_none (by simp; omega)] at e
              cases e
          obtain ⟨q, g, e1, e3, e4⟩ := old
          exact ⟨q, g, e1, Stab.eff.2 _ _ _ _ e3 e2, e4⟩
        · obtain ⟨q, e1, e3⟩ := hysA i y e
          exact ⟨q, e1, Stab.eff.2 _ _ _ _ (e3.mono s2) e2⟩
      have n1 := ok.n1
      have ylen : ys.length = B.n := by
        rw [len]
        omega
      walk_at "rd"
      cases i with
      | zero =>
        have pe : ps = [] := List.eq_nil_of_length_eq_zero pl
        subst pe
        refine r_ixLa (sqL_at htpA) (v := .non) (at_m1 rfl) ?_
        walk_at "rd"
        refine iY rfl ?_
        walk_at "rd"
        refine r_append htpA (by show 1 < 100000; decide) ?_
        exact fin2 (.ref q) H' _ sameR ⟨q, _, rfl, ⟨dq, hq⟩, isRun_one ok _⟩
      | succ i =>
        obtain ⟨v, hv2⟩ : ∃ v, ps[i]? = some v := ⟨_, List.getElem?_eq_getElem (by omega)⟩
        obtain ⟨q2, g, rfl, ⟨d2, hq2⟩, hrun⟩ := hps _ _ hv2
        refine r_ixLa (sqL_at htpA) (v := .ref q2) (at_m1 ?_) ?_
        · show (V.non :: ps)[ps.length + 1 - 1]? = _
          rw [pl]
          exact hv2
        walk_at "rd"
        refine iN (by intro z; cases z) ?_
        walk_at "rd"
        refine fun q3 H2 s2 hq3 => ?_
        walk_at "rd"
        refine r_append (s2 _ _ htpA) (by show ps.length + 1 < 100000; omega) ?_
        exact fin2 (.ref q3) H2 _ s2 ⟨q3, _, rfl, hq3, hrun.next ok⟩
    · rintro σ H' ⟨x, y, ps, rfl, hpA, hteA, htrA, htpA, pl, hps, xA, hysA⟩
      have n1 := ok.n1
      have ylen : ys.length = B.n := by
        rw [len]
        omega
      walk_at "rd"
      refine ⟨p, B, rfl, ⟨ok, dx, tb, tw, te, tr, tp, [], ps, hpA, rst_0, sqT_sameX hp xA hb, sqT_sameX hp xA hw, hteA, htpA, pl.trans ylen, hps⟩, fun ts H2 s2 hset => ?_⟩
      have hpB := s2 _ _ hpA
      walk_at "rd"
      refine r_sfldR hpB (fc_Bakery T) (fna_Bakery_settled T) (by show 7 < 1000; decide) ?_
      have e11 : putF "settled" (V.ref ts) (bakF tb tw B (bakR te tr tp [])) = bakF tb tw B (bakR te tr tp [("settled", .ref ts)]) := by kernel_rfl
      rw [e11]
      have xB : SameX p H (upd H2 p (.ins (He.ga K "Bakery") dx (bakF tb tw B (bakR te tr tp [("settled", .ref ts)])))) := (xA.tr s2).at
      refine k _ te tp xB hte0 htp0 ⟨ok, dx, tb, tw, tr, ts, ps, upd_same, sqT_sameX hp xB hb, sqT_sameX hp xB hw, ?_, ?_, pl.trans ylen, fun k v e => ?_, ?_⟩
      · rw [upd_ne ntp]
        exact s2 _ _ hteA
      · rw [upd_ne ntp2]
        exact s2 _ _ htpA
      · obtain ⟨q, g, e1, e2, e3⟩ := hps k v e
        have e4 := e2.mono s2
        obtain ⟨dq, e5⟩ := e4
        exact ⟨q, g, e1, ⟨dq, by rw [upd_ne (eff_ne ⟨dq, e5⟩ hpB)]; exact e5⟩, e3⟩
      · obtain ⟨q, D, R, h1, h2, h3⟩ := hset
        exact ⟨q, D, R, by rw [upd_ne (tup_ne h1 hpB)]; exact h1, by rw [upd_ne (tup_ne h2 hpB)]; exact h2, h3⟩
  · have lt : j < B.last := by omega
    refine i2 (fun c => ?_) (fun c => ?_)
    rotate_left
    · walk_at "rd"
      rw [el]
      have e7 : ((j + 1 : Nat) : Int) - 1 = (j : Nat) := by omega
      rw [e7]
      refine r_I (by omega) ?_
      walk_at "rd"
      refine i2n (fun _ => ?_) (fun z => ?_)
      rotate_left
      · have z2 := ok.last_min (j := j) (by omega) (by omega)
        omega
      walk_at "rd"
      refine r_turn ?_
      walk_at "rd"
      rw [el]
      refine ⟨p, B, _, rfl, ⟨ok, dx, tb, tw, _, hpJ, hr1, hbJ, hwJ⟩, fun q H2 s2 hq2 => ?_⟩
      have e9 : ((j + 1 : Nat) : Int) - 1 = (j : Nat) := by omega
      rw [e9] at hq2
      obtain ⟨dq, hq2⟩ := hq2
      have hpK := s2 _ _ hpJ
      have hteK := s2 _ _ hteJ
      walk_at "rd"
      refine r_ixLa (sqL_at hteK) (at_m1 (earlyN_at B j)) ?_
      walk_at "rd"
      refine r_append hteK (by rw [el]; have := ok.last_lt; omega) ?_
      refine ⟨_, (by omega : B.last - (j + 1) < B.last - j), j + 1, lt, rfl, rfl, by rw [upd_ne ntp.symm]; exact hpK, ?_, (xJ.tr s2).mut hte0⟩
      rw [← earlyN_next]
      exact upd_same
    walk_at "rd"
    refine r_turn ?_
    walk_at "rd"
    rw [el]
    refine ⟨p, B, _, rfl, ⟨ok, dx, tb, tw, _, hpJ, hr1, hbJ, hwJ⟩, fun q H2 s2 hq2 => ?_⟩
    have e9 : ((j + 1 : Nat) : Int) - 1 = (j : Nat) := by omega
    rw [e9] at hq2
    obtain ⟨dq, hq2⟩ := hq2
    have hpK := s2 _ _ hpJ
    have hteK := s2 _ _ hteJ
    walk_at "rd"
    refine r_ixLa (sqL_at hteK) (at_m1 (earlyN_at B j)) ?_
    walk_at "rd"
    refine r_append hteK (by rw [el]; have := ok.last_lt; omega) ?_
    refine ⟨_, (by omega : B.last - (j + 1) < B.last - j), j + 1, lt, rfl, rfl, by rw [upd_ne ntp.symm]; exact hpK, ?_, (xJ.tr s2).mut hte0⟩
    rw [← earlyN_next]
    exact upd_same
/-- a new Bakery, for a caller; its lists are new -/
theorem use_BakeryF {K : PySem.W.Frag} {H : Hp} {Q : VK} {E : XK} {tb tw : Addr} {B : Bak} {l : Int} (hl : l = B.life) (hb : SqT K H tb (B.bakes.map V.int)) (hw : SqT K H tw (B.dems.map V.int)) (ok : B.Ok) (q : ∀ p H' te tp, Same H H' → H te = none → H tp = none → BakAtF K H' p B te tp → Q (.ref p) H') : MakR (He.ga K "Bakery") (spBakInit K) E Q [.ref tb, .ref tw, .int l] H := by
  intro x dx hx hd ne
  subst hl
  have s1 : Same H (upd (upd H dx (.own x)) x (.ins (He.ga K "Bakery") dx [])) := fun b o hb => by
    rw [upd_ne (ne_of_none hb hx), upd_ne (ne_of_none hb hd)]
    exact hb
  refine ⟨x, dx, tb, tw, B, rfl, upd_same, same_sqT s1 hb, same_sqT s1 hw, ok, fun H' te tp xs n1 n2 h => ⟨rfl, q x H' te tp (fun b o hb => ?_) (none_of_same s1 n1) (none_of_same s1 n2) h⟩⟩
  exact xs b o (ne_of_none hb hx) (s1 b o hb)
theorem use_Bakery {K : PySem.W.Frag} {H : Hp} {Q : VK} {E : XK} {tb tw : Addr} {B : Bak} {l : Int} (hl : l = B.life) (hb : SqT K H tb (B.bakes.map V.int)) (hw : SqT K H tw (B.dems.map V.int)) (ok : B.Ok) (q : ∀ p H', Same H H' → BakAt K H' p B → Q (.ref p) H') : MakR (He.ga K "Bakery") (spBakInit K) E Q [.ref tb, .ref tw, .int l] H :=
  use_BakeryF hl hb hw ok fun p H' _ _ s _ _ h => q p H' s h.at

end G57
end
section
set_option maxRecDepth 100000
set_option maxHeartbeats 4000000
namespace G57
open PySem PySem.Spec PyProof.Rows L2
/-! the walk's small steps: "rd" reads on as far as it can -/
local macro_rules | `(tactic| walk_at "fact") => `(tactic| fail)
local macro_rules | `(tactic| walk_at "rd1") => `(tactic| with_reducible first
  | (refine v_id ?_; first | refine r_var_0 ?_ | refine r_var_1 ?_ | refine r_var_2 ?_ | refine r_var_3 ?_ | refine r_var_4 ?_ | refine r_var_5 ?_ | refine r_var_6 ?_ | refine r_var_7 ?_ | refine r_var_8 ?_ | refine r_var_9 ?_ | refine r_var_10 ?_ | refine r_var_11 ?_ | refine r_var_12 ?_ | refine r_var_13 ?_ | refine r_var_14 ?_ | refine r_var_15 ?_ | refine r_var_16 ?_ | refine r_var_17 ?_ | refine r_var_18 ?_ | refine r_var_19 ?_ | refine r_var_20 ?_ | refine r_var_21 ?_ | refine r_var_22 ?_ | refine r_var_23 ?_ | refine r_var_24 ?_ | refine r_var_25 ?_ | refine r_var_26 ?_ | refine r_var_27 ?_ | refine r_var rfl ?_)
  | (refine s_id ?_; first | refine r_set_0 ?_ | refine r_set_1 ?_ | refine r_set_2 ?_ | refine r_set_3 ?_ | refine r_set_4 ?_ | refine r_set_5 ?_ | refine r_set_6 ?_ | refine r_set_7 ?_ | refine r_set_8 ?_ | refine r_set_9 ?_ | refine r_set_10 ?_ | refine r_set_11 ?_ | refine r_set_12 ?_ | refine r_set_13 ?_ | refine r_set_14 ?_ | refine r_set_15 ?_ | refine r_set_16 ?_ | refine r_set_17 ?_ | refine r_set_18 ?_ | refine r_set_19 ?_ | refine r_set_20 ?_ | refine r_set_21 ?_ | refine r_set_22 ?_ | refine r_set_23 ?_ | refine r_set_24 ?_ | refine r_set_25 ?_ | refine r_set_26 ?_ | refine r_set_27 ?_ | refine r_setU ?_)
  | refine r_c ?_
  | refine r_op ?_
  | refine r_I0 ?_
  | refine r_seq ?_
  | refine r_asg ?_
  | refine r_fld ?_
  | refine r_nil ?_
  | refine r_cons ?_
  | refine r_cb ?_
  | refine r_max ?_
  | refine r_min ?_
  | refine r_ret ?_
  | refine r_met ?_
  | refine r_call ?_
  | refine r_B ?_
  | refine r_test ?_
  | refine r_b' ?_
  | refine r_ifS ?_
  | refine r_if ?_
  | refine r_par ?_
  | refine r_par2 ?_
  | refine r_drop ?_
  | refine r_next ?_
  | refine r_make ?_
  | refine r_sfld ?_
  | refine r_int1 ?_
  | refine r_intb ?_
  | refine r_and ?_
  | refine r_or ?_
  | refine r_not ?_
  | refine r_chain ?_
  | refine r_isN ?_
  | refine r_notN ?_
  | refine r_un ?_
  | refine r_U ?_
  | refine r_par3 ?_
  | refine r_par33 ?_
  | refine r_tup ?_
  | refine r_lst ?_
  | refine r_prop ?_
  | refine r_bm ?_
  | refine r_bm0 ?_
  | refine r_andV ?_
  | refine r_orV ?_
  | refine r_notV ?_
  | refine r_asgG ?_
  | refine r_gname ?_
  | refine r_gcons ?_
  | refine r_gnil ?_
  | refine r_rng1 ?_
  | refine r_rng2 ?_
  | refine r_for ?_
  | refine r_lc1 ?_
  | refine r_lc2 ?_
  | refine r_lc3 ?_
  | refine r_lc ?_
  | refine r_while ?_
  | refine r_rev ?_
  | refine r_sl ?_
  | refine r_augS ?_
  | refine r_iL ?_
  | refine r_iT ?_
  | refine r_iE ?_
  | refine r_ipI ?_
  | refine r_aug rfl ?_
  | refine r_cval ?_
  | refine r_turnN ?_
  | refine iT ?_
  | refine iNT ?_
  | refine iNF ?_
  | refine iOF ?_
  | refine iF ?_
  | refine r_part ?_
  | refine r_pi ?_
  | refine r_gsub ?_
  | refine r_noPart ?_)
local macro_rules | `(tactic| walk_at "rd") => `(tactic| (repeat (first | walk_at "rd1" | walk_at "fact")))
local macro_rules | `(tactic| walk_at "plen") => `(tactic| (repeat (first | decide | refine putF_lt ?_)))
local macro_rules | `(tactic| walk_at "rs") => `(tactic| (repeat ((fail_if_success (with_reducible refine r_stop ?_)); (first | walk_at "rd1" | walk_at "fact"))))
local macro_rules | `(tactic| walk_at "fact") => `(tactic| with_reducible first
  | refine mE (by assumption) (mlk_end _) ?_
  | refine mE (by assumption) (mlk_missed _) ?_
  | refine mE (by assumption) (mlk_thrown _) ?_
  | refine use_end (by assumption) ?_
  | refine use_mis (by assumption) ?_
  | refine use_thr (by assumption) ?_
  | refine fB_baking ‹_› (by assumption) ?_
  | refine fB_wishes ‹_› (by assumption) ?_
  | refine fB_days_kept ‹_› (by assumption) ?_
  | refine fB_size ‹_› (by assumption) ?_
  | refine fB_early ‹_› (by assumption) ?_
  | refine fB_round ‹_› (by assumption) ?_
  | refine fB_prefixes ‹_› (by assumption) ?_
  | refine mB (by assumption) (by assumption) (by decide) ?_
  | refine r_tyL (sqL_at (by assumption)) ?_
  | refine r_lenL (sqL_at (by assumption)) ?_)
def spStk (K : PySem.W.Frag) : Sp := fun vs H Q _ => ∃ (a : Addr) (B : Bak) (d : Nat), vs = [.ref a, .int (d : Nat)] ∧ BakM K H a B ∧ d ≤ 1000000000000000000 ∧ ∀ H', Same H H' → Q (.int (B.st d)) H'
theorem ok_Bakery_stock {P : Program} {w : World} {K : PySem.W.Frag} {mg : Str → Option Value} {base : Heap} (T : Tx K mg) : C8.Met P w K mg base 6 (He.ga K "Bakery") "stock" (spStk K) [] := by
  have G_validate_number := ok_validate_number (P := P) (w := w) (base := base) T
  have G_Bakery_start_of := ok_Bakery_start_of (P := P) (w := w) (base := base) T
  refine met_of (d := d_Bakery_stock) (C := "Bakery") (m := "stock") (fn_Bakery_stock T) rfl rfl (fc_Bakery T) (fme_Bakery_stock T) sc_Bakery_stock (fun _ _ _ _ _ _ us hl => match us, hl with | [_, _], _ => rfl) (fun vs H Q E h => ?_) (fun cdv A outer s H vs Q E hr h => ?_)
  · obtain ⟨a, B, d, rfl, hM, hd, k⟩ := h
    rfl
  obtain ⟨a, B, d, rfl, hM, hd, k⟩ := h
  refine ⟨_, (pss_cons (ps_expr (C8.pe_c G_validate_number hr (by decide) (by rfl) (pa_cons (pv 1) (pa_cons pe_int (pa_cons (C8.pe_gc rfl (gc_int (fi_MAX_DAY T))) pa_nil)))))
      (pss_one (ps_ret (C8.pe_mt G_Bakery_start_of hr (by decide) (pv 0) (pa_cons (pv 1) pa_nil))))), ?_⟩
  try dsimp only [cxOf, Cx.nox, Cx.wish]
  repeat rw [st_cons]
  repeat rw [st_none]
  try rw [st_nn]
  obtain ⟨ok, dx, tb, tw, te, tr, tp, r, ps, hB, hq, hb, hw, he, hp, hl, hps⟩ := id hM
  have hq' : Rst (bakR te tr tp r) := bakR_rst hq
  walk_at "rd"
  refine ⟨_, _, _, rfl, by omega, by omega, ?_⟩
  walk_at "rd"
  exact ⟨a, B, d, rfl, hM, k⟩
def spMsd (K : PySem.W.Frag) : Sp := fun vs H Q _ => ∃ (a : Addr) (B : Bak) (d : Nat), vs = [.ref a, .int (d : Nat)] ∧ BakM K H a B ∧ d ≤ 1000000000000000000 ∧ ∀ H', Same H H' → Q (.int (B.ms d)) H'
theorem ok_Bakery_missed {P : Program} {w : World} {K : PySem.W.Frag} {mg : Str → Option Value} {base : Heap} (T : Tx K mg) : C8.Met P w K mg base 6 (He.ga K "Bakery") "missed" (spMsd K) [] := by
  have G_validate_number := ok_validate_number (P := P) (w := w) (base := base) T
  have G_Bakery_effect_of := ok_Bakery_effect_of (P := P) (w := w) (base := base) T
  have G_Effect_missed := ok_Effect_missed (P := P) (w := w) (base := base) T
  have G_Bakery_start_of := ok_Bakery_start_of (P := P) (w := w) (base := base) T
  refine met_of (d := d_Bakery_missed) (C := "Bakery") (m := "missed") (fn_Bakery_missed T) rfl rfl (fc_Bakery T) (fme_Bakery_missed T) sc_Bakery_missed (fun _ _ _ _ _ _ us hl => match us, hl with | [_, _], _ => rfl) (fun vs H Q E h => ?_) (fun cdv A outer s H vs Q E hr h => ?_)
  · obtain ⟨a, B, d, rfl, hM, hd, k⟩ := h
    rfl
  obtain ⟨a, B, d, rfl, hM, hd, k⟩ := h
  refine ⟨_, (pss_cons (ps_expr (C8.pe_c G_validate_number hr (by decide) (by rfl) (pa_cons (pv 1) (pa_cons pe_int (pa_cons (C8.pe_gc rfl (gc_int (fi_MAX_DAY T))) pa_nil)))))
      (pss_one (ps_ret (C8.pe_mt G_Effect_missed hr (by decide) (C8.pe_mt G_Bakery_effect_of hr (by decide) (pv 0) (pa_cons (pv 1) pa_nil)) (pa_cons (C8.pe_mt G_Bakery_start_of hr (by decide) (pv 0) (pa_cons (pv 1) pa_nil)) pa_nil))))), ?_⟩
  try dsimp only [cxOf, Cx.nox, Cx.wish]
  repeat rw [st_cons]
  repeat rw [st_none]
  try rw [st_nn]
  obtain ⟨ok, dx, tb, tw, te, tr, tp, r, ps, hB, hq, hb, hw, he, hp, hl, hps⟩ := id hM
  have hq' : Rst (bakR te tr tp r) := bakR_rst hq
  walk_at "rd"
  refine ⟨_, _, _, rfl, by omega, by omega, ?_⟩
  walk_at "rd"
  refine ⟨a, B, _, rfl, hM.c, fun q H1 s1 ⟨dq, hq1⟩ => ?_⟩
  have hB1 := s1 _ _ hB
  walk_at "rd"
  refine ⟨a, B, d, rfl, hM.mono s1, fun H2 s2 => ?_⟩
  have hq2 := s2 _ _ hq1
  walk_at "rd"
  exact k H2 (sameT s1 s2)
def spThn (K : PySem.W.Frag) : Sp := fun vs H Q _ => ∃ (a : Addr) (B : Bak) (d : Nat), vs = [.ref a, .int (d : Nat)] ∧ BakM K H a B ∧ d ≤ 1000000000000000000 ∧ ∀ H', Same H H' → Q (.int (B.th d)) H'
theorem ok_Bakery_thrown {P : Program} {w : World} {K : PySem.W.Frag} {mg : Str → Option Value} {base : Heap} (T : Tx K mg) : C8.Met P w K mg base 6 (He.ga K "Bakery") "thrown" (spThn K) [] := by
  have G_validate_number := ok_validate_number (P := P) (w := w) (base := base) T
  have G_Bakery_effect_of := ok_Bakery_effect_of (P := P) (w := w) (base := base) T
  have G_Effect_thrown := ok_Effect_thrown (P := P) (w := w) (base := base) T
  have G_Bakery_start_of := ok_Bakery_start_of (P := P) (w := w) (base := base) T
  refine met_of (d := d_Bakery_thrown) (C := "Bakery") (m := "thrown") (fn_Bakery_thrown T) rfl rfl (fc_Bakery T) (fme_Bakery_thrown T) sc_Bakery_thrown (fun _ _ _ _ _ _ us hl => match us, hl with | [_, _], _ => rfl) (fun vs H Q E h => ?_) (fun cdv A outer s H vs Q E hr h => ?_)
  · obtain ⟨a, B, d, rfl, hM, hd, k⟩ := h
    rfl
  obtain ⟨a, B, d, rfl, hM, hd, k⟩ := h
  refine ⟨_, (pss_cons (ps_expr (C8.pe_c G_validate_number hr (by decide) (by rfl) (pa_cons (pv 1) (pa_cons pe_int (pa_cons (C8.pe_gc rfl (gc_int (fi_MAX_DAY T))) pa_nil)))))
      (pss_one (ps_ret (C8.pe_mt G_Effect_thrown hr (by decide) (C8.pe_mt G_Bakery_effect_of hr (by decide) (pv 0) (pa_cons (pv 1) pa_nil)) (pa_cons (C8.pe_mt G_Bakery_start_of hr (by decide) (pv 0) (pa_cons (pv 1) pa_nil)) pa_nil))))), ?_⟩
  try dsimp only [cxOf, Cx.nox, Cx.wish]
  repeat rw [st_cons]
  repeat rw [st_none]
  try rw [st_nn]
  obtain ⟨ok, dx, tb, tw, te, tr, tp, r, ps, hB, hq, hb, hw, he, hp, hl, hps⟩ := id hM
  have hq' : Rst (bakR te tr tp r) := bakR_rst hq
  walk_at "rd"
  refine ⟨_, _, _, rfl, by omega, by omega, ?_⟩
  walk_at "rd"
  refine ⟨a, B, _, rfl, hM.c, fun q H1 s1 ⟨dq, hq1⟩ => ?_⟩
  have hB1 := s1 _ _ hB
  walk_at "rd"
  refine ⟨a, B, d, rfl, hM.mono s1, fun H2 s2 => ?_⟩
  have hq2 := s2 _ _ hq1
  walk_at "rd"
  exact k H2 (sameT s1 s2)
def spSld (K : PySem.W.Frag) : Sp := fun vs H Q _ => ∃ (a : Addr) (B : Bak) (d : Nat), vs = [.ref a, .int (d : Nat)] ∧ BakM K H a B ∧ d ≤ 1000000000000000000 ∧ ∀ H', Same H H' → Q (.int (B.wish (d : Nat) - B.ms d)) H'
theorem ok_Bakery_sold {P : Program} {w : World} {K : PySem.W.Frag} {mg : Str → Option Value} {base : Heap} (T : Tx K mg) : C8.Met P w K mg base 7 (He.ga K "Bakery") "sold" (spSld K) [] := by
  have G_Bakery_missed := ok_Bakery_missed (P := P) (w := w) (base := base) T
  refine met_of (d := d_Bakery_sold) (C := "Bakery") (m := "sold") (fn_Bakery_sold T) rfl rfl (fc_Bakery T) (fme_Bakery_sold T) sc_Bakery_sold (fun _ _ _ _ _ _ us hl => match us, hl with | [_, _], _ => rfl) (fun vs H Q E h => ?_) (fun cdv A outer s H vs Q E hr h => ?_)
  · obtain ⟨a, B, d, rfl, hM, hd, k⟩ := h
    rfl
  obtain ⟨a, B, d, rfl, hM, hd, k⟩ := h
  refine ⟨_, (pss_one (ps_ret (pe_op op_sub (pe_ix ix_tup (pe_fld (pv 0) rfl) (pe_op op_mod (pe_callTy cq_int (by rfl) (fn_int T) bb_int (pa_cons (pv 1) pa_nil)) (pe_fld (pv 0) rfl)) (fun _ _ => rfl)) (C8.pe_mt G_Bakery_missed hr (by decide) (pv 0) (pa_cons (pv 1) pa_nil))))), ?_⟩
  try dsimp only [cxOf, Cx.nox, Cx.wish]
  repeat rw [st_cons]
  repeat rw [st_none]
  try rw [st_nn]
  obtain ⟨ok, dx, tb, tw, te, tr, tp, r, ps, hB, hq, hb, hw, he, hp, hl, hps⟩ := id hM
  have hq' : Rst (bakR te tr tp r) := bakR_rst hq
  have n0 := ok.n0
  walk_at "rd"
  refine r_I (by omega) ?_
  refine r_ixT hw (ok.ix _).2.symm (by rw [List.getElem?_map, ok.wish_at]; rfl) ?_
  walk_at "rd"
  refine ⟨a, B, d, rfl, hM, hd, fun H2 s2 => ?_⟩
  walk_at "rd"
  exact k H2 s2
def spWsb (K : PySem.W.Frag) : Sp := fun vs H Q _ => ∃ (a : Addr) (B : Bak) (d : Nat), vs = [.ref a, .int (d : Nat)] ∧ BakM K H a B ∧ ∀ H', Same H H' → Q (.int (B.ws d)) H'
/-- an Effect that leads from the day s to the day e behind the last early one -/
def Stage (K : PySem.W.Frag) (H : Hp) (B : Bak) (v : V) (s e : Nat) : Prop := ∃ p g, v = .ref p ∧ EffAt K H p g ∧ g.fin (B.st (B.last + s)) = B.st (B.last + e) ∧ B.sm 0 (B.last + s) + g.mis (B.st (B.last + s)) = B.sm 0 (B.last + e) ∧ B.sh 0 (B.last + s) + g.thr (B.st (B.last + s)) = B.sh 0 (B.last + e)
def spTot (K : PySem.W.Frag) : Sp := fun vs H Q _ => ∃ (a : Addr) (B : Bak) (d : Nat), vs = [.ref a, .int (d : Nat)] ∧ BakM K H a B ∧ d ≤ 1000000000000000000 ∧ ∀ p H', Same H H' → H' p = some (.tup [.int (B.ws d - B.sm 0 d), .int (B.sm 0 d), .int (B.sh 0 d)]) → Q (.ref p) H'
def spShf (K : PySem.W.Frag) : Sp := fun vs H Q _ => ∃ (a : Addr) (B : Bak) (d : Nat), vs = [.ref a, .int (d : Nat)] ∧ BakM K H a B ∧ d ≤ 1000000000000000000 ∧ ∀ p vs H', Same H H' → H p = none → H' p = some (.lst vs) → Pairs H' vs (B.shelf d) → Q (.ref p) H'

end G57
end
section
set_option maxRecDepth 100000
set_option maxHeartbeats 4000000
namespace G57
open PySem PySem.Spec PyProof.Rows L2
/-! the walk's small steps: "rd" reads on as far as it can -/
local macro_rules | `(tactic| walk_at "fact") => `(tactic| fail)
local macro_rules | `(tactic| walk_at "rd1") => `(tactic| with_reducible first
  | (refine v_id ?_; first | refine r_var_0 ?_ | refine r_var_1 ?_ | refine r_var_2 ?_ | refine r_var_3 ?_ | refine r_var_4 ?_ | refine r_var_5 ?_ | refine r_var_6 ?_ | refine r_var_7 ?_ | refine r_var_8 ?_ | refine r_var_9 ?_ | refine r_var_10 ?_ | refine r_var_11 ?_ | refine r_var_12 ?_ | refine r_var_13 ?_ | refine r_var_14 ?_ | refine r_var_15 ?_ | refine r_var_16 ?_ | refine r_var_17 ?_ | refine r_var_18 ?_ | refine r_var_19 ?_ | refine r_var_20 ?_ | refine r_var_21 ?_ | refine r_var_22 ?_ | refine r_var_23 ?_ | refine r_var_24 ?_ | refine r_var_25 ?_ | refine r_var_26 ?_ | refine r_var_27 ?_ | refine r_var rfl ?_)
  | (refine s_id ?_; first | refine r_set_0 ?_ | refine r_set_1 ?_ | refine r_set_2 ?_ | refine r_set_3 ?_ | refine r_set_4 ?_ | refine r_set_5 ?_ | refine r_set_6 ?_ | refine r_set_7 ?_ | refine r_set_8 ?_ | refine r_set_9 ?_ | refine r_set_10 ?_ | refine r_set_11 ?_ | refine r_set_12 ?_ | refine r_set_13 ?_ | refine r_set_14 ?_ | refine r_set_15 ?_ | refine r_set_16 ?_ | refine r_set_17 ?_ | refine r_set_18 ?_ | refine r_set_19 ?_ | refine r_set_20 ?_ | refine r_set_21 ?_ | refine r_set_22 ?_ | refine r_set_23 ?_ | refine r_set_24 ?_ | refine r_set_25 ?_ | refine r_set_26 ?_ | refine r_set_27 ?_ | refine r_setU ?_)
  | refine r_c ?_
  | refine r_op ?_
  | refine r_I0 ?_
  | refine r_seq ?_
  | refine r_asg ?_
  | refine r_fld ?_
  | refine r_nil ?_
  | refine r_cons ?_
  | refine r_cb ?_
  | refine r_max ?_
  | refine r_min ?_
  | refine r_ret ?_
  | refine r_met ?_
  | refine r_call ?_
  | refine r_B ?_
  | refine r_test ?_
  | refine r_b' ?_
  | refine r_ifS ?_
  | refine r_if ?_
  | refine r_par ?_
  | refine r_par2 ?_
  | refine r_drop ?_
  | refine r_next ?_
  | refine r_make ?_
  | refine r_sfld ?_
  | refine r_int1 ?_
  | refine r_intb ?_
  | refine r_and ?_
  | refine r_or ?_
  | refine r_not ?_
  | refine r_chain ?_
  | refine r_isN ?_
  | refine r_notN ?_
  | refine r_un ?_
  | refine r_U ?_
  | refine r_par3 ?_
  | refine r_par33 ?_
  | refine r_tup ?_
  | refine r_lst ?_
  | refine r_prop ?_
  | refine r_bm ?_
  | refine r_bm0 ?_
  | refine r_andV ?_
  | refine r_orV ?_
  | refine r_notV ?_
  | refine r_asgG ?_
  | refine r_gname ?_
  | refine r_gcons ?_
  | refine r_gnil ?_
  | refine r_rng1 ?_
  | refine r_rng2 ?_
  | refine r_for ?_
  | refine r_lc1 ?_
  | refine r_lc2 ?_
  | refine r_lc3 ?_
  | refine r_lc ?_
  | refine r_while ?_
  | refine r_rev ?_
  | refine r_sl ?_
  | refine r_augS ?_
  | refine r_iL ?_
  | refine r_iT ?_
  | refine r_iE ?_
  | refine r_ipI ?_
  | refine r_aug rfl ?_
  | refine r_cval ?_
  | refine r_turnN ?_
  | refine iT ?_
  | refine iNT ?_
  | refine iNF ?_
  | refine iOF ?_
  | refine iF ?_
  | refine r_part ?_
  | refine r_pi ?_
  | refine r_gsub ?_
  | refine r_noPart ?_)
local macro_rules | `(tactic| walk_at "rd") => `(tactic| (repeat (first | walk_at "rd1" | walk_at "fact")))
local macro_rules | `(tactic| walk_at "plen") => `(tactic| (repeat (first | decide | refine putF_lt ?_)))
local macro_rules | `(tactic| walk_at "rs") => `(tactic| (repeat ((fail_if_success (with_reducible refine r_stop ?_)); (first | walk_at "rd1" | walk_at "fact"))))
theorem lkB_settled {tb tw te tr tp ts : Addr} {B : Bak} : (bakF tb tw B (bakR te tr tp [("settled", .ref ts)])).lookup ("settled" : Str) = some (V.ref ts) := by kernel_rfl
local macro_rules | `(tactic| walk_at "fact") => `(tactic| with_reducible first
  | refine fB_baking ‹_› (by assumption) ?_
  | refine fB_wishes ‹_› (by assumption) ?_
  | refine fB_days_kept ‹_› (by assumption) ?_
  | refine fB_size ‹_› (by assumption) ?_
  | refine mB (by assumption) (by assumption) (by decide) ?_)
def spSdy (K : PySem.W.Frag) : Sp := fun vs H Q _ => ∃ (a : Addr) (B : Bak), vs = [.ref a] ∧ BakAt K H a B ∧ ∀ D : Nat, Settled B D → Q (.int (D : Nat)) H
/-- the sums over a round from a settled day on -/
def spLrn (K : PySem.W.Frag) : Sp := fun vs H Q _ => ∃ (a : Addr) (B : Bak), vs = [.ref a] ∧ BakAt K H a B ∧ ∀ (q : Addr) (D R : Nat), Settled B D → B.last ≤ R → D ≤ R → H q = some (.tup [.int (B.dems.sum - B.sm R B.n), .int (B.sm R B.n), .int (B.sh R B.n)]) → Q (.ref q) H
def spLiv (K : PySem.W.Frag) : Sp := fun vs H Q _ => ∃ (a : Addr) (B : Bak) (l : Int), vs = [.ref a, .int l] ∧ BakC K H a B ∧ (B.liv l).Ok ∧ ∀ p H' te tp, Same H H' → H te = none → H tp = none → BakAtF K H' p (B.liv l) te tp → Q (.ref p) H'
def spMor (K : PySem.W.Frag) : Sp := fun vs H Q _ => ∃ (a : Addr) (B : Bak) (c : Int), vs = [.ref a, .int c] ∧ BakC K H a B ∧ (B.mor c).Ok ∧ ∀ p H' te tp, Same H H' → H te = none → H tp = none → BakAtF K H' p (B.mor c) te tp → Q (.ref p) H'

end G57
end
section
set_option maxRecDepth 100000
set_option maxHeartbeats 4000000
namespace G57
open PySem PySem.Spec PyProof.Rows L2
/-! the walk's small steps: "rd" reads on as far as it can -/
local macro_rules | `(tactic| walk_at "fact") => `(tactic| fail)
local macro_rules | `(tactic| walk_at "rd1") => `(tactic| with_reducible first
  | (refine v_id ?_; first | refine r_var_0 ?_ | refine r_var_1 ?_ | refine r_var_2 ?_ | refine r_var_3 ?_ | refine r_var_4 ?_ | refine r_var_5 ?_ | refine r_var_6 ?_ | refine r_var_7 ?_ | refine r_var_8 ?_ | refine r_var_9 ?_ | refine r_var_10 ?_ | refine r_var_11 ?_ | refine r_var_12 ?_ | refine r_var_13 ?_ | refine r_var_14 ?_ | refine r_var_15 ?_ | refine r_var_16 ?_ | refine r_var_17 ?_ | refine r_var_18 ?_ | refine r_var_19 ?_ | refine r_var_20 ?_ | refine r_var_21 ?_ | refine r_var_22 ?_ | refine r_var_23 ?_ | refine r_var_24 ?_ | refine r_var_25 ?_ | refine r_var_26 ?_ | refine r_var_27 ?_ | refine r_var rfl ?_)
  | (refine s_id ?_; first | refine r_set_0 ?_ | refine r_set_1 ?_ | refine r_set_2 ?_ | refine r_set_3 ?_ | refine r_set_4 ?_ | refine r_set_5 ?_ | refine r_set_6 ?_ | refine r_set_7 ?_ | refine r_set_8 ?_ | refine r_set_9 ?_ | refine r_set_10 ?_ | refine r_set_11 ?_ | refine r_set_12 ?_ | refine r_set_13 ?_ | refine r_set_14 ?_ | refine r_set_15 ?_ | refine r_set_16 ?_ | refine r_set_17 ?_ | refine r_set_18 ?_ | refine r_set_19 ?_ | refine r_set_20 ?_ | refine r_set_21 ?_ | refine r_set_22 ?_ | refine r_set_23 ?_ | refine r_set_24 ?_ | refine r_set_25 ?_ | refine r_set_26 ?_ | refine r_set_27 ?_ | refine r_setU ?_)
  | refine r_c ?_
  | refine r_op ?_
  | refine r_I0 ?_
  | refine r_seq ?_
  | refine r_asg ?_
  | refine r_fld ?_
  | refine r_nil ?_
  | refine r_cons ?_
  | refine r_cb ?_
  | refine r_max ?_
  | refine r_min ?_
  | refine r_ret ?_
  | refine r_met ?_
  | refine r_call ?_
  | refine r_B ?_
  | refine r_test ?_
  | refine r_b' ?_
  | refine r_ifS ?_
  | refine r_if ?_
  | refine r_par ?_
  | refine r_par2 ?_
  | refine r_drop ?_
  | refine r_next ?_
  | refine r_make ?_
  | refine r_sfld ?_
  | refine r_int1 ?_
  | refine r_intb ?_
  | refine r_and ?_
  | refine r_or ?_
  | refine r_not ?_
  | refine r_chain ?_
  | refine r_isN ?_
  | refine r_notN ?_
  | refine r_un ?_
  | refine r_U ?_
  | refine r_par3 ?_
  | refine r_par33 ?_
  | refine r_tup ?_
  | refine r_lst ?_
  | refine r_prop ?_
  | refine r_bm ?_
  | refine r_bm0 ?_
  | refine r_andV ?_
  | refine r_orV ?_
  | refine r_notV ?_
  | refine r_asgG ?_
  | refine r_gname ?_
  | refine r_gcons ?_
  | refine r_gnil ?_
  | refine r_rng1 ?_
  | refine r_rng2 ?_
  | refine r_for ?_
  | refine r_lc1 ?_
  | refine r_lc2 ?_
  | refine r_lc3 ?_
  | refine r_lc ?_
  | refine r_while ?_
  | refine r_rev ?_
  | refine r_sl ?_
  | refine r_augS ?_
  | refine r_iL ?_
  | refine r_iT ?_
  | refine r_iE ?_
  | refine r_ipI ?_
  | refine r_aug rfl ?_
  | refine r_cval ?_
  | refine r_turnN ?_
  | refine iT ?_
  | refine iNT ?_
  | refine iNF ?_
  | refine iOF ?_
  | refine iF ?_
  | refine r_part ?_
  | refine r_pi ?_
  | refine r_gsub ?_
  | refine r_noPart ?_)
local macro_rules | `(tactic| walk_at "rd") => `(tactic| (repeat (first | walk_at "rd1" | walk_at "fact")))
local macro_rules | `(tactic| walk_at "plen") => `(tactic| (repeat (first | decide | refine putF_lt ?_)))
local macro_rules | `(tactic| walk_at "rs") => `(tactic| (repeat ((fail_if_success (with_reducible refine r_stop ?_)); (first | walk_at "rd1" | walk_at "fact"))))
section
variable {K : PySem.W.Frag} {σ : L2.St} {H H' : Hp} {Q : VK} {E : XK} {a b : Addr} {B : Bak}
/-- a Bakery whose lists are not those that draw -/
def BakD (K : PySem.W.Frag) (h l : Addr) (H : Hp) (a : Addr) (B : Bak) : Prop := ∃ te tp, (te ≠ h ∧ te ≠ l) ∧ (tp ≠ h ∧ tp ≠ l) ∧ BakAtF K H a B te tp
theorem bakD_s {h l : Addr} (s : Same H H') (b : BakD K h l H a B) : BakD K h l H' a B := let ⟨te, tp, n1, n2, k⟩ := b; ⟨te, tp, n1, n2, k.mono s⟩
theorem bakD_d {h l : Addr} (s : SameD h l H H') (hat : Hat H h l) (b : BakD K h l H a B) : BakD K h l H' a B := let ⟨te, tp, n1, n2, k⟩ := b; ⟨te, tp, n1, n2, k.sd s hat n1 n2⟩
theorem bakD_id {h l : Addr} (b : BakD K h l H a B) : BakD K h l H a B := b
theorem bakM_id (b : BakM K H a B) : BakM K H a B := b
theorem bakAt_id (b : BakAt K H a B) : BakAt K H a B := b
theorem bakAt_D {h l : Addr} (b : BakD K h l H a B) : BakAt K H a B := let ⟨_, _, _, _, k⟩ := b; k.at
theorem bakAt_s (s : Same H H') (b : BakAt K H a B) : BakAt K H' a B := b.mono s
theorem bakM_at (b : BakAt K H a B) : BakM K H a B := b.m
theorem bakM_s (s : Same H H') (b : BakM K H a B) : BakM K H' a B := b.mono s
theorem bakC_M (b : BakM K H a B) : BakC K H a B := b.c
theorem BakAt.ok (b : BakAt K H a B) : B.Ok := b.1
theorem BakD.ok {h l : Addr} (b : BakD K h l H a B) : B.Ok := (bakAt_D b).1
theorem mBk {m : Str} {sp : Sp} {t : TA} (h : BakC K H a B) (hm : m ∈ bakMs) (q : t σ H fun vs H2 => sp (.ref a :: vs) H2 Q E) : MetR (He.ga K "Bakery") m sp [] E t σ Q (.ref a) H := by
  obtain ⟨_, dx, tb, tw, r, hB, hr, _⟩ := h
  exact mB hB hr hm q
theorem pBk {sp : Sp} (h : BakC K H a B) (q : sp [.ref a] H Q E) : ∃ a' dx fs, V.ref a = .ref a' ∧ H a' = some (.ins (He.ga K "Bakery") dx fs) ∧ sp [.ref a'] H Q E := by
  obtain ⟨_, dx, tb, tw, r, hB, hr, _⟩ := h
  exact r_propR hB q
theorem use_BakeryD {tb tw h l : Addr} (hat : Hat H h l) (hb : SqT K H tb (B.bakes.map V.int)) (hw : SqT K H tw (B.dems.map V.int)) (ok : B.Ok) (q : ∀ p H', Same H H' → BakD K h l H' p B → Q (.ref p) H') : MakR (He.ga K "Bakery") (spBakInit K) E Q [.ref tb, .ref tw, .int B.life] H :=
  use_BakeryF rfl hb hw ok fun p H' te tp s n1 n2 k => q p H' s ⟨te, tp, hat.ne n1, hat.ne n2, k⟩
theorem use_Bakery0 {tb tw : Addr} (hb : SqT K H tb (B.bakes.map V.int)) (hw : SqT K H tw (B.dems.map V.int)) (ok : B.Ok) (q : ∀ p H', Same H H' → BakAt K H' p B → Q (.ref p) H') : MakR (He.ga K "Bakery") (spBakInit K) E Q [.ref tb, .ref tw, .int B.life] H := use_Bakery rfl hb hw ok q
theorem a_lenTB (h : SqT K H a (B.bakes.map V.int)) (q : Q (.int (B.n : Nat)) H) : rLenQ K [.ref a] H Q := r_lenT h (by rw [List.length_map]; exact q)
theorem ix_map {l : List Int} {i : Nat} (h : i < l.length) : (l.map V.int)[i]? = some (.int (l.getD i 0)) := by
  rw [List.getElem?_map, List.getD_eq_getElem?_getD, List.getElem?_eq_getElem h]
  rfl
theorem a_lenTD (h : SqT K H a (B.dems.map V.int)) (ok : B.Ok) (q : Q (.int (B.n : Nat)) H) : rLenQ K [.ref a] H Q := r_lenT h (by rw [List.length_map, ok.m]; exact q)
theorem a_ixD {d : Int} (h : SqT K H a (B.dems.map V.int)) (ok : B.Ok) (q : Q (.int (B.wish d)) H) : rIxT K (.ref a) (.int (d % (B.n : Nat))) H Q := r_ixT h (ok.ix d).2.symm (by rw [List.getElem?_map, ok.wish_at d]; rfl) q
theorem a_ixB {d : Int} (h : SqT K H a (B.bakes.map V.int)) (ok : B.Ok) (d0 : 0 ≤ d) (q : Q (.int (B.bk d)) H) : rIxT K (.ref a) (.int (d % (B.n : Nat))) H Q := r_ixT h (ok.ix d).2.symm (by rw [List.getElem?_map, ok.bk_at d0]; rfl) q
theorem nat_of {x : Int} (h : 0 ≤ x) : x = ((x.toNat : Nat) : Int) := by omega
theorem use_stk {x : Int} (b : BakM K H a B) (h0 : 0 ≤ x) (h1 : x ≤ 1000000000000000000) (q : ∀ H', Same H H' → Q (.int (B.st x.toNat)) H') : spStk K [.ref a, .int x] H Q E := ⟨a, B, x.toNat, by rw [← nat_of h0], b, by omega, q⟩
theorem use_msd {x : Int} (b : BakM K H a B) (h0 : 0 ≤ x) (h1 : x ≤ 1000000000000000000) (q : ∀ H', Same H H' → Q (.int (B.ms x.toNat)) H') : spMsd K [.ref a, .int x] H Q E := ⟨a, B, x.toNat, by rw [← nat_of h0], b, by omega, q⟩
theorem use_thn {x : Int} (b : BakM K H a B) (h0 : 0 ≤ x) (h1 : x ≤ 1000000000000000000) (q : ∀ H', Same H H' → Q (.int (B.th x.toNat)) H') : spThn K [.ref a, .int x] H Q E := ⟨a, B, x.toNat, by rw [← nat_of h0], b, by omega, q⟩
theorem use_sld {x : Int} (b : BakM K H a B) (h0 : 0 ≤ x) (h1 : x ≤ 1000000000000000000) (q : ∀ H', Same H H' → Q (.int (B.wish x - B.ms x.toNat)) H') : spSld K [.ref a, .int x] H Q E := ⟨a, B, x.toNat, by rw [← nat_of h0], b, by omega, by rw [← nat_of h0]; exact q⟩
theorem use_tot {x : Int} (b : BakM K H a B) (h0 : 0 ≤ x) (h1 : x ≤ 1000000000000000000) (q : ∀ p H', Same H H' → H' p = some (.tup [.int (B.ws x.toNat - B.sm 0 x.toNat), .int (B.sm 0 x.toNat), .int (B.sh 0 x.toNat)]) → Q (.ref p) H') : spTot K [.ref a, .int x] H Q E := ⟨a, B, x.toNat, by rw [← nat_of h0], b, by omega, q⟩
theorem use_shf {x : Int} (b : BakM K H a B) (h0 : 0 ≤ x) (h1 : x ≤ 1000000000000000000) (q : ∀ p vs H', Same H H' → H' p = some (.lst vs) → Pairs H' vs (B.shelf x.toNat) → Q (.ref p) H') : spShf K [.ref a, .int x] H Q E := ⟨a, B, x.toNat, by rw [← nat_of h0], b, by omega, fun p vs H' s _ e pr => q p vs H' s e pr⟩
theorem use_shfN {x : Int} (b : BakM K H a B) (h0 : 0 ≤ x) (h1 : x ≤ 1000000000000000000) (q : ∀ p vs H', Same H H' → H p = none → H' p = some (.lst vs) → Pairs H' vs (B.shelf x.toNat) → Q (.ref p) H') : spShf K [.ref a, .int x] H Q E := ⟨a, B, x.toNat, by rw [← nat_of h0], b, by omega, q⟩
theorem use_sdy (b : BakAt K H a B) (q : ∀ D : Nat, Settled B D → D ≤ 1000000000000 → Q (.int (D : Nat)) H) : spSdy K [.ref a] H Q E := ⟨a, B, rfl, b, fun D hD => q D hD (settled_le b.1 hD)⟩
theorem use_lrn (b : BakAt K H a B) (q : ∀ (q : Addr) (D : Nat), Settled B D → H q = some (.tup [.int (B.dems.sum - B.sm D B.n), .int (B.sm D B.n), .int (B.sh D B.n)]) → Q (.ref q) H) : spLrn K [.ref a] H Q E := ⟨a, B, rfl, b, fun p D R hD _ hR e => by
  obtain ⟨e1, e2⟩ := sm_from b.1 hD hR
  rw [e1, e2] at e
  exact q p D hD e⟩
theorem use_bks (b : BakC K H a B) (q : ∀ tb, SqT K H tb (B.bakes.map V.int) → Q (.ref tb) H) : spBks K [.ref a] H Q E := by
  obtain ⟨_, dx, tb, tw, r, hB, hr, h1, h2⟩ := b
  exact ⟨a, dx, tb, tw, B, r, rfl, hB, q tb h1⟩
theorem use_dms (b : BakC K H a B) (q : ∀ tw, SqT K H tw (B.dems.map V.int) → Q (.ref tw) H) : spDms K [.ref a] H Q E := by
  obtain ⟨_, dx, tb, tw, r, hB, hr, h1, h2⟩ := b
  exact ⟨a, dx, tb, tw, B, r, rfl, hB, q tw h2⟩
theorem use_lif (b : BakC K H a B) (q : Q (.int B.life) H) : spLif K [.ref a] H Q E := by
  obtain ⟨_, dx, tb, tw, r, hB, hr, h1, h2⟩ := b
  exact ⟨a, dx, tb, tw, B, r, rfl, hB, q⟩
theorem use_liv {x : Int} (b : BakC K H a B) (ok : (B.liv x).Ok) (q : ∀ p H', Same H H' → BakAt K H' p (B.liv x) → Q (.ref p) H') : spLiv K [.ref a, .int x] H Q E := ⟨a, B, x, rfl, b, ok, fun p H' te tp s _ _ k => q p H' s k.at⟩
theorem use_mor {x : Int} (b : BakC K H a B) (ok : (B.mor x).Ok) (q : ∀ p H', Same H H' → BakAt K H' p (B.mor x) → Q (.ref p) H') : spMor K [.ref a, .int x] H Q E := ⟨a, B, x, rfl, b, ok, fun p H' te tp s _ _ k => q p H' s k.at⟩
theorem use_num {x lo hi : Int} (h1 : lo ≤ x) (h2 : x ≤ hi) (q : Q .non H) : spNum [.int x, .int lo, .int hi] H Q E := ⟨x, lo, hi, rfl, h1, h2, q⟩
theorem a_maxB (h : SqT K H a (B.bakes.map V.int)) (ok : B.Ok) (q : ∀ m, m ∈ B.bakes → (∀ x, x ∈ B.bakes → x ≤ m) → Q (.int m) H) : rMaxT K [.ref a] H Q := r_maxT h ok.n0 q
theorem a_minB (h : SqT K H a (B.bakes.map V.int)) (ok : B.Ok) (q : ∀ m, m ∈ B.bakes → (∀ x, x ∈ B.bakes → m ≤ x) → Q (.int m) H) : rMinT K [.ref a] H Q := r_minT h ok.n0 q
end

end G57
end
section
set_option maxRecDepth 100000
set_option maxHeartbeats 4000000
namespace G57
open PySem PySem.Spec PyProof.Rows L2
/-! the walk's small steps: "rd" reads on as far as it can -/
local macro_rules | `(tactic| walk_at "fact") => `(tactic| fail)
local macro_rules | `(tactic| walk_at "rd1") => `(tactic| with_reducible first
  | (refine v_id ?_; first | refine r_var_0 ?_ | refine r_var_1 ?_ | refine r_var_2 ?_ | refine r_var_3 ?_ | refine r_var_4 ?_ | refine r_var_5 ?_ | refine r_var_6 ?_ | refine r_var_7 ?_ | refine r_var_8 ?_ | refine r_var_9 ?_ | refine r_var_10 ?_ | refine r_var_11 ?_ | refine r_var_12 ?_ | refine r_var_13 ?_ | refine r_var_14 ?_ | refine r_var_15 ?_ | refine r_var_16 ?_ | refine r_var_17 ?_ | refine r_var_18 ?_ | refine r_var_19 ?_ | refine r_var_20 ?_ | refine r_var_21 ?_ | refine r_var_22 ?_ | refine r_var_23 ?_ | refine r_var_24 ?_ | refine r_var_25 ?_ | refine r_var_26 ?_ | refine r_var_27 ?_ | refine r_var rfl ?_)
  | (refine s_id ?_; first | refine r_set_0 ?_ | refine r_set_1 ?_ | refine r_set_2 ?_ | refine r_set_3 ?_ | refine r_set_4 ?_ | refine r_set_5 ?_ | refine r_set_6 ?_ | refine r_set_7 ?_ | refine r_set_8 ?_ | refine r_set_9 ?_ | refine r_set_10 ?_ | refine r_set_11 ?_ | refine r_set_12 ?_ | refine r_set_13 ?_ | refine r_set_14 ?_ | refine r_set_15 ?_ | refine r_set_16 ?_ | refine r_set_17 ?_ | refine r_set_18 ?_ | refine r_set_19 ?_ | refine r_set_20 ?_ | refine r_set_21 ?_ | refine r_set_22 ?_ | refine r_set_23 ?_ | refine r_set_24 ?_ | refine r_set_25 ?_ | refine r_set_26 ?_ | refine r_set_27 ?_ | refine r_setU ?_)
  | refine r_c ?_
  | refine r_op ?_
  | refine r_I0 ?_
  | refine r_seq ?_
  | refine r_asg ?_
  | refine r_fld ?_
  | refine r_nil ?_
  | refine r_cons ?_
  | refine r_cb ?_
  | refine r_max ?_
  | refine r_min ?_
  | refine r_ret ?_
  | refine r_met ?_
  | refine r_call ?_
  | refine r_B ?_
  | refine r_test ?_
  | refine r_b' ?_
  | refine r_ifS ?_
  | refine r_if ?_
  | refine r_par ?_
  | refine r_par2 ?_
  | refine r_drop ?_
  | refine r_next ?_
  | refine r_make ?_
  | refine r_sfld ?_
  | refine r_int1 ?_
  | refine r_intb ?_
  | refine r_and ?_
  | refine r_or ?_
  | refine r_not ?_
  | refine r_chain ?_
  | refine r_isN ?_
  | refine r_notN ?_
  | refine r_un ?_
  | refine r_U ?_
  | refine r_par3 ?_
  | refine r_par33 ?_
  | refine r_tup ?_
  | refine r_lst ?_
  | refine r_prop ?_
  | refine r_bm ?_
  | refine r_bm0 ?_
  | refine r_andV ?_
  | refine r_orV ?_
  | refine r_notV ?_
  | refine r_asgG ?_
  | refine r_gname ?_
  | refine r_gcons ?_
  | refine r_gnil ?_
  | refine r_rng1 ?_
  | refine r_rng2 ?_
  | refine r_for ?_
  | refine r_lc1 ?_
  | refine r_lc2 ?_
  | refine r_lc3 ?_
  | refine r_lc ?_
  | refine r_while ?_
  | refine r_rev ?_
  | refine r_sl ?_
  | refine r_augS ?_
  | refine r_iL ?_
  | refine r_iT ?_
  | refine r_iE ?_
  | refine r_ipI ?_
  | refine r_aug rfl ?_
  | refine r_cval ?_
  | refine r_turnN ?_
  | refine iT ?_
  | refine iNT ?_
  | refine iNF ?_
  | refine iOF ?_
  | refine iF ?_
  | refine r_part ?_
  | refine r_pi ?_
  | refine r_gsub ?_
  | refine r_noPart ?_)
local macro_rules | `(tactic| walk_at "rd") => `(tactic| (repeat (first | walk_at "rd1" | walk_at "fact")))
local macro_rules | `(tactic| walk_at "plen") => `(tactic| (repeat (first | decide | refine putF_lt ?_)))
local macro_rules | `(tactic| walk_at "rs") => `(tactic| (repeat ((fail_if_success (with_reducible refine r_stop ?_)); (first | walk_at "rd1" | walk_at "fact"))))
theorem BakAtF.sdB {K : PySem.W.Frag} {H H' : Hp} {p : Addr} {B : Bak} {te tp h a : Addr} (b : BakAtF K H p B te tp) (s : SameD h h H H') (hat : HatB K H h a) (n1 : te ≠ h) (n2 : tp ≠ h) : BakAtF K H' p B te tp := by
  obtain ⟨ok, dx, tb, tw, tr, ts, ps, hB, hb, hw, he, hp, hl, hps, q, D, R, h1, h2, h3⟩ := b
  refine ⟨ok, dx, tb, tw, tr, ts, ps, atB_ins s hat hB, sqTB s hat hb, sqTB s hat hw, s _ _ n1 n1 he, s _ _ n2 n2 hp, hl, fun k v e => ?_, q, D, R, atB_tup s hat h1, atB_tup s hat h2, h3⟩
  obtain ⟨p, g, z, ⟨dg, q⟩, i⟩ := hps k v e
  exact ⟨p, g, z, ⟨dg, atB_ins s hat q⟩, i⟩
theorem bakDB {K : PySem.W.Frag} {H H' : Hp} {p h a : Addr} {B : Bak} (s : SameD h h H H') (hat : HatB K H h a) (b : BakD K h h H p B) : BakD K h h H' p B := let ⟨te, tp, n1, n2, k⟩ := b; ⟨te, tp, n1, n2, k.sdB s hat n1.1 n2.1⟩
theorem use_BakeryB {K : PySem.W.Frag} {H : Hp} {Q : VK} {E : XK} {B : Bak} {tb tw h a : Addr} {l : Int} (hat : HatB K H h a) (hl : l = B.life) (hb : SqT K H tb (B.bakes.map V.int)) (hw : SqT K H tw (B.dems.map V.int)) (ok : B.Ok) (q : ∀ p H', Same H H' → BakD K h h H' p B → Q (.ref p) H') : MakR (He.ga K "Bakery") (spBakInit K) E Q [.ref tb, .ref tw, .int l] H :=
  use_BakeryF hl hb hw ok fun p H' te tp s n1 n2 k => q p H' s ⟨te, tp, hat.ne n1, hat.ne n2, k⟩
/-- drawn amounts make a bakery -/
theorem ok_drawn {xs ys : List Int} {n : Nat} {w l : Int} (n0 : 1 ≤ n) (n1 : n ≤ 24) (w1 : w ≤ 1000000000) (hx : xs.length = n) (hy : ys.length = n) (bx : ∀ x ∈ xs, 0 ≤ x ∧ x ≤ w) (by_ : ∀ x ∈ ys, 0 ≤ x ∧ x ≤ w) (l0 : 1 ≤ l) (l1 : l ≤ 30) : (Bak.mk xs ys l).Ok :=
  ⟨by show 1 ≤ xs.length; omega, by show xs.length ≤ 24; omega, by show ys.length = xs.length; omega, l0, l1, fun x h => by have := bx x h; omega, fun x h => by have := by_ x h; omega⟩

end G57
end
section
set_option maxRecDepth 100000
set_option maxHeartbeats 4000000
namespace G57
open PySem PySem.Spec PyProof.Rows L2
/-! the walk's small steps: "rd" reads on as far as it can -/
local macro_rules | `(tactic| walk_at "fact") => `(tactic| fail)
local macro_rules | `(tactic| walk_at "rd1") => `(tactic| with_reducible first
  | (refine v_id ?_; first | refine r_var_0 ?_ | refine r_var_1 ?_ | refine r_var_2 ?_ | refine r_var_3 ?_ | refine r_var_4 ?_ | refine r_var_5 ?_ | refine r_var_6 ?_ | refine r_var_7 ?_ | refine r_var_8 ?_ | refine r_var_9 ?_ | refine r_var_10 ?_ | refine r_var_11 ?_ | refine r_var_12 ?_ | refine r_var_13 ?_ | refine r_var_14 ?_ | refine r_var_15 ?_ | refine r_var_16 ?_ | refine r_var_17 ?_ | refine r_var_18 ?_ | refine r_var_19 ?_ | refine r_var_20 ?_ | refine r_var_21 ?_ | refine r_var_22 ?_ | refine r_var_23 ?_ | refine r_var_24 ?_ | refine r_var_25 ?_ | refine r_var_26 ?_ | refine r_var_27 ?_ | refine r_var rfl ?_)
  | (refine s_id ?_; first | refine r_set_0 ?_ | refine r_set_1 ?_ | refine r_set_2 ?_ | refine r_set_3 ?_ | refine r_set_4 ?_ | refine r_set_5 ?_ | refine r_set_6 ?_ | refine r_set_7 ?_ | refine r_set_8 ?_ | refine r_set_9 ?_ | refine r_set_10 ?_ | refine r_set_11 ?_ | refine r_set_12 ?_ | refine r_set_13 ?_ | refine r_set_14 ?_ | refine r_set_15 ?_ | refine r_set_16 ?_ | refine r_set_17 ?_ | refine r_set_18 ?_ | refine r_set_19 ?_ | refine r_set_20 ?_ | refine r_set_21 ?_ | refine r_set_22 ?_ | refine r_set_23 ?_ | refine r_set_24 ?_ | refine r_set_25 ?_ | refine r_set_26 ?_ | refine r_set_27 ?_ | refine r_setU ?_)
  | refine r_c ?_
  | refine r_op ?_
  | refine r_I0 ?_
  | refine r_seq ?_
  | refine r_asg ?_
  | refine r_fld ?_
  | refine r_nil ?_
  | refine r_cons ?_
  | refine r_cb ?_
  | refine r_max ?_
  | refine r_min ?_
  | refine r_ret ?_
  | refine r_met ?_
  | refine r_call ?_
  | refine r_B ?_
  | refine r_test ?_
  | refine r_b' ?_
  | refine r_ifS ?_
  | refine r_if ?_
  | refine r_par ?_
  | refine r_par2 ?_
  | refine r_drop ?_
  | refine r_next ?_
  | refine r_make ?_
  | refine r_sfld ?_
  | refine r_int1 ?_
  | refine r_intb ?_
  | refine r_and ?_
  | refine r_or ?_
  | refine r_not ?_
  | refine r_chain ?_
  | refine r_isN ?_
  | refine r_notN ?_
  | refine r_un ?_
  | refine r_U ?_
  | refine r_par3 ?_
  | refine r_par33 ?_
  | refine r_tup ?_
  | refine r_lst ?_
  | refine r_prop ?_
  | refine r_bm ?_
  | refine r_bm0 ?_
  | refine r_andV ?_
  | refine r_orV ?_
  | refine r_notV ?_
  | refine r_asgG ?_
  | refine r_gname ?_
  | refine r_gcons ?_
  | refine r_gnil ?_
  | refine r_rng1 ?_
  | refine r_rng2 ?_
  | refine r_for ?_
  | refine r_lc1 ?_
  | refine r_lc2 ?_
  | refine r_lc3 ?_
  | refine r_lc ?_
  | refine r_while ?_
  | refine r_rev ?_
  | refine r_sl ?_
  | refine r_augS ?_
  | refine r_iL ?_
  | refine r_iT ?_
  | refine r_iE ?_
  | refine r_ipI ?_
  | refine r_aug rfl ?_
  | refine r_cval ?_
  | refine r_turnN ?_
  | refine iT ?_
  | refine iNT ?_
  | refine iNF ?_
  | refine iOF ?_
  | refine iF ?_
  | refine r_part ?_
  | refine r_pi ?_
  | refine r_gsub ?_
  | refine r_noPart ?_)
local macro_rules | `(tactic| walk_at "rd") => `(tactic| (repeat (first | walk_at "rd1" | walk_at "fact")))
local macro_rules | `(tactic| walk_at "plen") => `(tactic| (repeat (first | decide | refine putF_lt ?_)))
local macro_rules | `(tactic| walk_at "rs") => `(tactic| (repeat ((fail_if_success (with_reducible refine r_stop ?_)); (first | walk_at "rd1" | walk_at "fact"))))
/-! finding a fact in the present heap by the way back; each rule is applied by its conclusion before its premises are sought -/
local macro_rules | `(tactic| walk_at "atx") => `(tactic| fail)
local macro_rules | `(tactic| walk_at "c_h") => `(tactic| first
  | with_reducible assumption
  | ((with_reducible apply hat_s); (with_reducible assumption); walk_at "c_h"))
local macro_rules | `(tactic| walk_at "c_n") => `(tactic| first
  | with_reducible assumption
  | ((with_reducible apply hat_ne); (with_reducible assumption); walk_at "c_h"))
local macro_rules | `(tactic| walk_at "c_o") => `(tactic| first
  | with_reducible assumption
  | with_reducible exact upd_same
  | ((with_reducible apply at_s); (with_reducible assumption); walk_at "c_o")
  | ((with_reducible apply atd_tup); (with_reducible assumption); walk_at "c_h"; walk_at "c_o")
  | ((with_reducible apply atd_ins); (with_reducible assumption); walk_at "c_h"; walk_at "c_o")
  | ((with_reducible apply atd_lst); (with_reducible assumption); walk_at "c_n"; walk_at "c_o")
  | ((with_reducible apply atx_tup); (with_reducible assumption); walk_at "c_o"; walk_at "c_o")
  | ((with_reducible apply atx_ins); (with_reducible assumption); walk_at "c_o"; walk_at "c_o")
  | ((with_reducible apply atx_ne); (with_reducible assumption); (with_reducible assumption); walk_at "c_o"))
local macro_rules | `(tactic| walk_at "c_q") => `(tactic| first
  | with_reducible assumption
  | ((with_reducible apply sqL_s); (with_reducible assumption); walk_at "c_q"))
local macro_rules | `(tactic| walk_at "c_t") => `(tactic| first
  | with_reducible assumption
  | ((with_reducible apply sqT_s); (with_reducible assumption); walk_at "c_t")
  | ((with_reducible apply sqT_d); (with_reducible assumption); walk_at "c_h"; walk_at "c_t")
  | ((with_reducible apply sqT_x); (with_reducible assumption); walk_at "c_o"; walk_at "c_t"))
local macro_rules | `(tactic| walk_at "c_p") => `(tactic| first
  | with_reducible assumption
  | ((with_reducible apply pairs_s); (with_reducible assumption); walk_at "c_p"))
local macro_rules | `(tactic| walk_at "at") => `(tactic| first
  | with_reducible assumption
  | with_reducible exact upd_same
  | walk_at "atx"
  | ((with_reducible apply sqL_at); walk_at "c_o")
  | ((with_reducible apply sqL_s); (with_reducible assumption); walk_at "c_q")
  | ((with_reducible apply sqT_at); walk_at "c_o")
  | ((with_reducible apply sqT_id); walk_at "c_t")
  | ((with_reducible apply hat_id); walk_at "c_h")
  | ((with_reducible apply pairs_id); walk_at "c_p")
  | ((with_reducible apply ne_id); walk_at "c_n")
  | ((with_reducible apply at_id); walk_at "c_o"))
/-! a length, an inequality -/
local macro_rules | `(tactic| walk_at "le") => `(tactic| first | exact Nat.le_of_ble_eq_true rfl | omega | (simp; done) | (simp; omega))
local macro_rules | `(tactic| walk_at "ar") => `(tactic| first | omega | exact ⟨by omega, by omega⟩ | exact .inl ⟨by omega, by omega⟩ | exact .inr ⟨by omega, by omega⟩ | exact .inr (by omega) | exact .inl (by omega) | exact ⟨by omega, by omega, by omega⟩ | decide)
/-! calls of the text's own defs, with letters for what they leave -/
local macro_rules | `(tactic| walk_at "use") => `(tactic| fail)
local macro_rules | `(tactic| walk_at "go1") => `(tactic| first
  | walk_at "rd1"
  | walk_at "fact"
  | walk_at "use"
  | with_reducible refine r_p6 ?_
  | with_reducible refine r_p8 ?_
  | with_reducible refine r_p9 ?_
  | with_reducible refine r_p10 ?_
  | with_reducible refine r_p12 ?_
  | with_reducible refine r_p14 ?_
  | with_reducible refine r_p15 ?_
  | with_reducible refine r_p17 ?_
  | with_reducible refine r_p18 ?_
  | ((with_reducible apply r_I); walk_at "ar")
  | ((with_reducible apply a_neNil); walk_at "at"; intro _ _)
  | ((with_reducible apply a_eqNil); walk_at "at"; intro _ _)
  | ((with_reducible apply a_nwT); walk_at "le"; intro _ _ _ _ _)
  | ((with_reducible apply a_nwL); walk_at "le"; intro _ _ _ _ _)
  | ((with_reducible apply r_ixL (j := 0)); walk_at "at"; rfl; rfl)
  | ((with_reducible apply r_ixL (j := 1)); walk_at "at"; rfl; rfl)
  | ((with_reducible apply r_ixL (j := 2)); walk_at "at"; rfl; rfl)
  | ((with_reducible apply r_ixL (j := 3)); walk_at "at"; rfl; rfl)
  | ((with_reducible apply r_ixT (j := 0)); walk_at "at"; rfl; rfl)
  | ((with_reducible apply r_ixT (j := 1)); walk_at "at"; rfl; rfl)
  | ((with_reducible apply r_ixT (j := 2)); walk_at "at"; rfl; rfl)
  | ((with_reducible apply a_pick2); walk_at "at"; omega; omega; intro _ _)
  | ((with_reducible apply a_pick3); walk_at "at"; omega; omega; intro _ _)
  | ((with_reducible apply a_pick4); walk_at "at"; omega; omega; intro _ _)
  | ((with_reducible apply r_gtup); walk_at "at"; rfl)
  | ((with_reducible apply a_lenLI); walk_at "at")
  | ((with_reducible apply r_lenL); walk_at "at")
  | ((with_reducible apply r_lenT); walk_at "at")
  | ((with_reducible apply r_tyL); walk_at "at")
  | ((with_reducible apply a_cat); walk_at "at"; walk_at "at"; walk_at "le"; intro _ _ _ _ _)
  | ((with_reducible apply a_listL); walk_at "at"; intro _ _ _ _ _)
  | ((with_reducible apply a_tupL); walk_at "at"; intro _ _ _ _ _)
  | ((with_reducible apply a_slL); walk_at "at"; intro _ _ _ _ _)
  | ((with_reducible apply a_revL); walk_at "at"; intro _ _ _ _ _)
  | ((with_reducible apply r_sumT); walk_at "at")
  | ((with_reducible apply r_sumL); walk_at "at")
  | ((with_reducible refine ⟨_, rfl, ?_, ?_, ?_⟩); omega; omega)
  | ((with_reducible refine ⟨_, _, rfl, ⟨?_, ?_, ?_, ?_⟩, ?_⟩); omega; omega; omega; omega)
  | with_reducible refine ⟨_, rfl, ⟨_, by walk_at "at"⟩, ?_⟩)
local macro_rules | `(tactic| walk_at "go") => `(tactic| (repeat (walk_at "go1")))
local macro_rules | `(tactic| walk_at "sames") => `(tactic| first | exact sameR | assumption | ((with_reducible apply sameB); assumption; walk_at "sames"))
local macro_rules | `(tactic| walk_at "sameds") => `(tactic| first | assumption | ((with_reducible apply sameD_of); walk_at "sames"; done) | ((with_reducible apply sameDB); assumption; walk_at "sameds") | ((with_reducible apply sameDS); assumption; walk_at "sameds"))
local macro_rules | `(tactic| walk_at "gs") => `(tactic| (repeat ((fail_if_success (with_reducible refine r_stop ?_)); (walk_at "go1"))))
open TL
def wordsAt (K : PySem.W.Frag) (H : Hp) (p : Addr) (a b c d e : List Nat) : Prop := let xs := [V.str (mkS a), .str (mkS b), .str (mkS c), .str (mkS d), .str (mkS e)]; SqT K H p xs ∨ SqL K H p xs
theorem fits_s {a : Str} (h : a.length ≤ 1000) : a.length ≤ 1000000 := Nat.le_trans h (by decide)
theorem sizeBig : (100000 : Nat) ≤ sizeLine := Nat.le_of_ble_eq_true rfl
def spLine (K : PySem.W.Frag) : Sp := fun vs H Q _ => ∃ (p : Addr) (a b c d e : List Nat), vs = [.ref p] ∧ wordsAt K H p a b c d e ∧ (a.length ≤ 1000 ∧ b.length ≤ 1000 ∧ c.length ≤ 1000 ∧ d.length ≤ 1000 ∧ e.length ≤ 1000) ∧ Q (.str (mkS (lnL a b c d e))) H
theorem ok_line_of {P : Program} {w : World} {K : PySem.W.Frag} {mg : Str → Option Value} {base : Heap} (T : Tx K mg) : C8.Cal P w K mg base 1 "line_of" (spLine K) [] := by
  refine cal_of (d := d_line_of) (x := "line_of") (fn_line_of T) rfl rfl (fg_line_of T) sc_line_of (fun _ _ _ _ _ _ us hl => match us, hl with | [_], _ => rfl) (fun vs H Q E h => ?_) (fun cdv A outer s H vs Q E hr h => ?_)
  · obtain ⟨p, a, b, c, d, e, rfl, hw, ⟨ha, hb, hc, hd, he⟩, k⟩ := h
    rfl
  obtain ⟨p, a, b, c, d, e, rfl, hw, ⟨ha, hb, hc, hd, he⟩, k⟩ := h
  refine ⟨_, (pss_cons (ps_asg (pv 0) (pg_two (pg_tup (n := 5) (by rfl) (pgs_cons (pg_name (i := 1) sc_line_of.nd rfl (Or.inl rfl)) (pgs_cons (pg_name (i := 2) sc_line_of.nd rfl (Or.inl rfl)) (pgs_cons (pg_name (i := 3) sc_line_of.nd rfl (Or.inl rfl)) (pgs_cons (pg_name (i := 4) sc_line_of.nd rfl (Or.inl rfl)) (pgs_cons (pg_name (i := 5) sc_line_of.nd rfl (Or.inl rfl)) pgs_nil)))))) (pg_unl (n := 5) (by rfl) (pgs_cons (pg_name (i := 1) sc_line_of.nd rfl (Or.inl rfl)) (pgs_cons (pg_name (i := 2) sc_line_of.nd rfl (Or.inl rfl)) (pgs_cons (pg_name (i := 3) sc_line_of.nd rfl (Or.inl rfl)) (pgs_cons (pg_name (i := 4) sc_line_of.nd rfl (Or.inl rfl)) (pgs_cons (pg_name (i := 5) sc_line_of.nd rfl (Or.inl rfl)) pgs_nil))))))))
      (pss_one (ps_ret (pe_joined (.cons (pe_fmt26 (pv 1) (pe_joined1 pe_str)) (.cons (pe_fmt14 (pv 2) (pe_joined1 pe_str)) (.cons (pe_fmt14 (pv 3) (pe_joined1 pe_str)) (.cons (pe_fmt14 (pv 4) (pe_joined1 pe_str)) (.cons (pe_fmt14 (pv 5) (pe_joined1 pe_str)) .nil))))))))), ?_⟩
  try dsimp only [cxOf, Cx.nox, Cx.wish]
  repeat rw [st_cons]
  repeat rw [st_none]
  try rw [st_nn]
  have lim := sizeBig
  have fin : tRet (fun σ H Q => tJs [tFmtW 26 (tVar 1), tFmtW 14 (tVar 2), tFmtW 14 (tVar 3), tFmtW 14 (tVar 4), tFmtW 14 (tVar 5)] Str.empty σ H fun out H1 => Q (V.str out) H1) { nx := fun x H' => Q V.non H', rt := Q } [some (V.ref p), some (.str (mkS a)), some (.str (mkS b)), some (.str (mkS c)), some (.str (mkS d)), some (.str (mkS e))] H := by
    have e0 : ∀ y : List Nat, Str.empty ++ mkS y = mkS y := fun y => ext_tl (by rw [tl_append]; rfl)
    have mk : ∀ y : List Nat, y.length ≤ 1000 → (mkS y).length ≤ 1000000 := fun y hy => by rw [mkS_len]; omega
    have j : ∀ {ts : List TE} {acc y : List Nat} {σ : L2.St} {H : Hp} {q : Str → Hp → Prop}, (acc ++ y).length ≤ 100000 → tJs ts (mkS (acc ++ y)) σ H q → JsR ts (mkS acc) σ q (.str (mkS y)) H := fun {ts acc y σ H q} hl h => r_jsR (by rw [mkS_app, mkS_len]; omega) (by rw [mkS_app]; exact h)
    refine r_ret ?_
    have e1 : Str.empty = mkS [] := rfl
    rw [e1]
    have l1 := pl_len 26 a
    have l2 := pl_len 14 b
    have l3 := pl_len 14 c
    have l4 := pl_len 14 d
    have l5 := pl_len 14 e
    refine r_js (r_fmtW (r_var rfl (r_fmtWR (mk _ ha) ?_)))
    rw [fillL_pl]
    refine j (by simp only [List.length_append, List.length_nil, tl_mkS]; omega) ?_
    refine r_js (r_fmtW (r_var rfl (r_fmtWR (mk _ hb) ?_)))
    rw [fillL_pl]
    refine j (by simp only [List.length_append, List.length_nil, tl_mkS]; omega) ?_
    refine r_js (r_fmtW (r_var rfl (r_fmtWR (mk _ hc) ?_)))
    rw [fillL_pl]
    refine j (by simp only [List.length_append, List.length_nil, tl_mkS]; omega) ?_
    refine r_js (r_fmtW (r_var rfl (r_fmtWR (mk _ hd) ?_)))
    rw [fillL_pl]
    refine j (by simp only [List.length_append, List.length_nil, tl_mkS]; omega) ?_
    refine r_js (r_fmtW (r_var rfl (r_fmtWR (mk _ he) ?_)))
    rw [fillL_pl]
    refine j (by simp only [List.length_append, List.length_nil, tl_mkS]; omega) ?_
    refine r_jsN ?_
    have ee : [] ++ pl 26 (TL.tl (mkS a)) ++ pl 14 (TL.tl (mkS b)) ++ pl 14 (TL.tl (mkS c)) ++ pl 14 (TL.tl (mkS d)) ++ pl 14 (TL.tl (mkS e)) = lnL a b c d e := by
      unfold lnL; simp only [tl_mkS, List.nil_append, List.append_assoc]
    rw [ee]
    exact k
  walk_at "rd"
  rcases hw with hw | hw
  · refine r_gtwo1 (r_gtup hw rfl ?_)
    walk_at "rd"
    exact fin
  · refine r_gtwo2 ⟨p, _, rfl, hw, rfl, ?_⟩
    walk_at "rd"
    exact fin
theorem use_line {K : PySem.W.Frag} {H : Hp} {Q : VK} {E : XK} {p : Addr} {a b c d e : List Nat} (hw : wordsAt K H p a b c d e) (hl : a.length ≤ 1000 ∧ b.length ≤ 1000 ∧ c.length ≤ 1000 ∧ d.length ≤ 1000 ∧ e.length ≤ 1000) (k : Q (.str (mkS (lnL a b c d e))) H) : spLine K [.ref p] H Q E := ⟨p, a, b, c, d, e, rfl, hw, hl, k⟩
/-- a number's word -/
def wd (i : Int) : List Nat := cmL (dg i.natAbs)
def spWord : Sp := fun vs H Q _ => ∃ i : Int, vs = [.int i] ∧ 0 ≤ i ∧ i < 1000000000000000000000000000000 ∧ Q (.str (mkS (wd i))) H
theorem log_small {i : Int} (h0 : 0 ≤ i) (h1 : i < 1000000000000000000000000000000) : i.natAbs.log2 < 1920 := by
  by_cases e : i.natAbs = 0
  · rw [e]; decide
  · refine (Nat.log2_lt e).mpr (Nat.lt_of_lt_of_le (show i.natAbs < 1000000000000000000000000000000 by omega) ?_)
    decide +kernel
theorem dg_numL (n : Nat) : dg n = numL n := rfl
theorem dg_len {i : Int} (h0 : 0 ≤ i) (h1 : i < 1000000000000000000000000000000) : (dg i.natAbs).length ≤ 30 := numL_len (k := 30) (by decide) (by show i.natAbs < 1000000000000000000000000000000; omega)
theorem ok_number_word {P : Program} {w : World} {K : PySem.W.Frag} {mg : Str → Option Value} {base : Heap} (T : Tx K mg) : C8.Cal P w K mg base 1 "number_word" (spWord) [] := by
  refine cal_of (d := d_number_word) (x := "number_word") (fn_number_word T) rfl rfl (fg_number_word T) sc_number_word (fun _ _ _ _ _ _ us hl => match us, hl with | [_], _ => rfl) (fun vs H Q E h => ?_) (fun cdv A outer s H vs Q E hr h => ?_)
  · obtain ⟨i, rfl, i0, i1, k⟩ := h
    rfl
  obtain ⟨i, rfl, i0, i1, k⟩ := h
  refine ⟨_, (pss_one (ps_ret (pe_joined1 (pe_fmtC (pv 0) (pe_joined1 pe_str))))), ?_⟩
  try dsimp only [cxOf, Cx.nox, Cx.wish]
  repeat rw [st_cons]
  repeat rw [st_none]
  try rw [st_nn]
  have h := dg_len i0 i1
  walk_at "rd"
  refine r_fmtC (r_var rfl (r_fmtCR i0 (log_small i0 i1) (by omega) ?_))
  exact k
theorem use_word {H : Hp} {Q : VK} {E : XK} {i : Int} (i0 : 0 ≤ i) (i1 : i < 1000000000000000000000000000000) (k : Q (.str (mkS (wd i))) H) : spWord [.int i] H Q E := ⟨i, rfl, i0, i1, k⟩
theorem str_dg {i : Int} (h : 0 ≤ i) : (Str.ofString (toString i)) = mkS (dg i.natAbs) := by
  obtain ⟨n, rfl⟩ := Int.eq_ofNat_of_zero_le h
  exact ext_tl ((tl_num n).trans rfl)
def spGrp : Sp := fun vs H Q _ => ∃ i : Int, vs = [.int i] ∧ 0 ≤ i ∧ i < 1000000000000000000000000000000 ∧ ∀ H', Same H H' → Q (.str (mkS (wd i))) H'
local macro_rules | `(tactic| walk_at "fact") => `(tactic| first
  | ((with_reducible apply r_lenS); (with_reducible assumption))
  | ((with_reducible apply r_slS); (with_reducible assumption))
  | with_reducible refine r_m1 ?_
  | with_reducible refine r_m1R ?_)
theorem ok_law_grouped {P : Program} {w : World} {K : PySem.W.Frag} {mg : Str → Option Value} {base : Heap} (T : Tx K mg) : C8.Cal P w K mg base 1 "_law_grouped" (spGrp) [] := by
  refine cal_of (d := d_law_grouped) (x := "_law_grouped") (fn_law_grouped T) rfl rfl (fg_law_grouped T) sc_law_grouped (fun _ _ _ _ _ _ us hl => match us, hl with | [_], _ => rfl) (fun vs H Q E h => ?_) (fun cdv A outer s H vs Q E hr h => ?_)
  · obtain ⟨i, rfl, i0, i1, k⟩ := h
    rfl
  obtain ⟨i, rfl, i0, i1, k⟩ := h
  refine ⟨_, (pss_cons (ps_par (i := 1) (j := 2) (by rfl) sc_law_grouped.nd rfl rfl (by decide) rfl rfl (pa_cons (pe_callTy cq_strI (by rfl) (fn_str T) bb_str (pa_cons (pv 0) pa_nil)) (pa_cons (pe_lst pa_nil) pa_nil)) (by rfl))
      (pss_cons (ps_while PassesOwn.never (pt_cmpR op_gt (pe_callB cq_lenS (by rfl) (fn_len T) bb_len (pa_cons (pv 1) pa_nil)) pe_int (nomark _)) (pss_cons (ps_set (i := 2) sc_law_grouped.nd rfl (Or.inl rfl) (pe_op op_cat (pe_lst (pa_cons (pe_slice sl_str (pv 1) (po_some (pe_op op_sub (pe_callB cq_lenS (by rfl) (fn_len T) bb_len (pa_cons (pv 1) pa_nil)) pe_int)) po_none) pa_nil)) (pv 2)))
      (pss_one (ps_set (i := 1) sc_law_grouped.nd rfl (Or.inl rfl) (pe_slice sl_str (pv 1) po_none (po_some (pe_op op_sub (pe_callB cq_lenS (by rfl) (fn_len T) bb_len (pa_cons (pv 1) pa_nil)) pe_int)))))))
      (pss_one (ps_ret (pe_joinN pe_str (pe_op op_cat (pe_lst (pa_cons (pv 1) pa_nil)) (pv 2))))))), ?_⟩
  try dsimp only [cxOf, Cx.nox, Cx.wish]
  repeat rw [st_cons]
  repeat rw [st_none]
  try rw [st_nn]
  have h := dg_len i0 i1
  have lim := sizeBig
  walk_at "rd"
  refine ⟨i, rfl, log_small i0 i1, ?_⟩
  have es := str_dg i0
  rw [es]
  walk_at "go"
  rename_i p0 H0 s0 n0 g0
  refine r_while ⟨fun m σ H' => ∃ (ds : List Nat) (gs : List (List Nat)) (p : Addr), σ = [some (.int i), some (.str (mkS ds)), some (.ref p)] ∧ H' p = some (.lst ((gs.map mkS).map V.str)) ∧ Same H H' ∧ m = ds.length ∧ 2 * ds.length + (tailG gs).length ≤ 100 ∧ cmL ds ++ tailG gs = wd i,
    ⟨_, dg i.natAbs, [], p0, rfl, g0, s0, rfl, by simp [tailG]; omega, by simp [tailG, wd]⟩, ?_⟩
  rintro m σ H' ⟨ds, gs, p, rfl, hp, sm, rfl, hl, hw⟩
  have gl := tailG_len gs
  have z : (mkS ds).length ≤ sizeLine := by rw [mkS_len]; omega
  have lz := mkS_len ds
  have gn : (List.map V.str (List.map mkS gs)).length = gs.length := by simp
  walk_at "gs"
  refine i2 (fun c => ?_) (fun c => ?_)
  · refine r_turn ?_
    have c' : 3 < ds.length := by omega
    have e3 : (((mkS ds).length : Nat) : Int) - 3 = ((ds.length - 3 : Nat) : Int) := by omega
    walk_at "gs"
    rename_i p1 H1 s1 n1 g1 p2 H2 s2 n2 g2
    rw [e3, cutS_drop] at g2
    rw [e3, cutS_take]
    refine ⟨_, ?_, ds.take (ds.length - 3), ds.drop (ds.length - 3) :: gs, p2, rfl, g2, sameT (sameT sm s1) s2, rfl, ?_, ?_⟩
    · rw [List.length_take]; omega
    · simp only [tailG, List.length_cons, List.length_append, List.length_take, List.length_drop]; omega
    · rw [← hw, cmL_long c']; simp [tailG]
  · walk_at "gs"
    rename_i p1 H1 s1 n1 g1 p2 H2 s2 n2 g2
    have sum : ∀ l : List (List Nat), ((l.map mkS).map (·.length)).sum = (l.map List.length).sum := fun l => by
      rw [List.map_map]
      congr 1
    have l1 : (Str.ofString ",").length = 1 := by decide +kernel
    refine r_joinN (ys := (ds :: gs).map mkS) (sqL_at g2) ?_ ?_
    · rw [sum, List.length_map, l1]
      simp only [List.map_cons, List.sum_cons, List.length_cons]
      omega
    · have e : Txt.join (Str.ofString ",") ((ds :: gs).map mkS) = mkS (wd i) := by
        refine ext_tl ?_
        have q : ((ds :: gs).map mkS).map TL.tl = ds :: gs := by
          rw [List.map_map]
          exact List.map_id'' (fun _ => rfl) _
        rw [join_eq, tl_join, q]
        have t1 : TL.tl (Str.ofString ",") = [44] := by decide +kernel
        rw [t1, join_tail, tl_mkS, ← hw, cmL_short (by omega)]
      rw [e]
      exact k _ (sameT (sameT sm s1) s2)
theorem use_grp {H : Hp} {Q : VK} {E : XK} {i : Int} (i0 : 0 ≤ i) (i1 : i < 1000000000000000000000000000000) (k : ∀ H', Same H H' → Q (.str (mkS (wd i))) H') : spGrp [.int i] H Q E := ⟨i, rfl, i0, i1, k⟩
/-- the first i of five words, filled up -/
def preL (a b c d e : List Nat) : Nat → List Nat
  | 0 => []
  | 1 => pl 26 a
  | 2 => pl 26 a ++ pl 14 b
  | 3 => pl 26 a ++ pl 14 b ++ pl 14 c
  | 4 => pl 26 a ++ pl 14 b ++ pl 14 c ++ pl 14 d
  | _ => lnL a b c d e
def wid5 : Nat → Nat
  | 0 => 26
  | _ => 14
def wdAt (a b c d e : List Nat) : Nat → List Nat
  | 0 => a
  | 1 => b
  | 2 => c
  | 3 => d
  | _ => e
theorem preL_step (a b c d e : List Nat) {i : Nat} (h : i < 5) : preL a b c d e (i + 1) = preL a b c d e i ++ pl (wid5 i) (wdAt a b c d e i) := by
  match i, h with
  | 0, _ => simp [preL, wid5, wdAt]
  | 1, _ => simp [preL, wid5, wdAt]
  | 2, _ => simp [preL, wid5, wdAt]
  | 3, _ => simp [preL, wid5, wdAt]
  | 4, _ => simp [preL, wid5, wdAt, lnL]
theorem preL_len {a b c d e : List Nat} (hl : a.length ≤ 80 ∧ b.length ≤ 80 ∧ c.length ≤ 80 ∧ d.length ≤ 80 ∧ e.length ≤ 80) (i : Nat) : (preL a b c d e i).length ≤ 1000 := by
  obtain ⟨h1, h2, h3, h4, h5⟩ := hl
  have l1 := pl_len 26 a
  have l2 := pl_len 14 b
  have l3 := pl_len 14 c
  have l4 := pl_len 14 d
  have l5 := pl_len 14 e
  match i with
  | 0 => simp [preL]
  | 1 => simp only [preL]; omega
  | 2 => simp only [preL, List.length_append]; omega
  | 3 => simp only [preL, List.length_append]; omega
  | 4 => simp only [preL, List.length_append]; omega
  | n + 5 => simp only [preL, lnL_len]; omega
def spLLine (K : PySem.W.Frag) : Sp := fun vs H Q _ => ∃ (p : Addr) (a b c d e : List Nat), vs = [.ref p] ∧ SqL K H p [V.str (mkS a), .str (mkS b), .str (mkS c), .str (mkS d), .str (mkS e)] ∧ (a.length ≤ 80 ∧ b.length ≤ 80 ∧ c.length ≤ 80 ∧ d.length ≤ 80 ∧ e.length ≤ 80) ∧ ∀ H', Same H H' → Q (.str (mkS (lnL a b c d e))) H'
theorem ok_law_line {P : Program} {w : World} {K : PySem.W.Frag} {mg : Str → Option Value} {base : Heap} (T : Tx K mg) : C8.Cal P w K mg base 1 "_law_line" (spLLine K) [] := by
  refine cal_of (d := d_law_line) (x := "_law_line") (fn_law_line T) rfl rfl (fg_law_line T) sc_law_line (fun _ _ _ _ _ _ us hl => match us, hl with | [_], _ => rfl) (fun vs H Q E h => ?_) (fun cdv A outer s H vs Q E hr h => ?_)
  · obtain ⟨p, a, b, c, d, e, rfl, hw, hl, k⟩ := h
    rfl
  obtain ⟨p, a, b, c, d, e, rfl, hw, hl, k⟩ := h
  refine ⟨_, (pss_cons (ps_set (i := 1) sc_law_line.nd rfl (Or.inl rfl) pe_str)
      (pss_cons (ps_for PassesOwn.never rfl (pi_range1 (by rfl) (fn_range T) (pa_cons pe_int pa_nil)) (pg_name (i := 2) sc_law_line.nd rfl (Or.inl rfl)) (pss_one (ps_set (i := 1) sc_law_line.nd rfl (Or.inl rfl) (pe_op op_addS (pe_op op_addS (pv 1) (pe_op op_mulS pe_str (pe_op op_sub (pe_ix ix_list (pe_lst (pa_cons pe_int (pa_cons pe_int (pa_cons pe_int (pa_cons pe_int (pa_cons pe_int pa_nil)))))) (pv 2) (fun _ _ => rfl)) (pe_callB cq_lenS (by rfl) (fn_len T) bb_len (pa_cons (pe_ix ix_list (pv 0) (pv 2) (fun _ _ => rfl)) pa_nil))))) (pe_ix ix_list (pv 0) (pv 2) (fun _ _ => rfl))))))
      (pss_one (ps_ret (pv 1))))), ?_⟩
  try dsimp only [cxOf, Cx.nox, Cx.wish]
  repeat rw [st_cons]
  repeat rw [st_none]
  try rw [st_nn]
  have lim := sizeBig
  walk_at "go"
  refine fR_range (n := 5) (fun i σ H' => (∃ x, σ = [some (.ref p), some (.str (mkS (preL a b c d e i))), x]) ∧ Same H H') ⟨⟨none, rfl⟩, sameR⟩ ?_ ?_
  · rintro i σ H' hi ⟨⟨x, rfl⟩, sm⟩
    have sl := same_sqL sm hw
    have hwi : [V.str (mkS a), .str (mkS b), .str (mkS c), .str (mkS d), .str (mkS e)][i]? = some (.str (mkS (wdAt a b c d e i))) ∧ [V.int 26, .int 14, .int 14, .int 14, .int 14][i]? = some (.int (wid5 i : Nat)) ∧ (wdAt a b c d e i).length ≤ 80 ∧ wid5 i ≤ 26 := by
      obtain ⟨h1, h2, h3, h4, h5⟩ := hl
      match i, hi with
      | 0, _ => exact ⟨rfl, rfl, h1, by decide⟩
      | 1, _ => exact ⟨rfl, rfl, h2, by decide⟩
      | 2, _ => exact ⟨rfl, rfl, h3, by decide⟩
      | 3, _ => exact ⟨rfl, rfl, h4, by decide⟩
      | 4, _ => exact ⟨rfl, rfl, h5, by decide⟩
    obtain ⟨w1, w2, wl, ww⟩ := hwi
    have pz := preL_len hl i
    have pz2 := preL_len hl (i + 1)
    rw [preL_step a b c d e hi, List.length_append, pl_len] at pz2
    have z0 : (mkS (preL a b c d e i)).length = (preL a b c d e i).length := mkS_len _
    walk_at "go"
    rename_i p1 H1 s1 n1 g1
    have sl1 := same_sqL s1 sl
    refine r_ixL (sqL_at g1) (Int.zero_add _) w2 ?_
    walk_at "go"
    refine r_ixL sl1 (Int.zero_add _) w1 ?_
    walk_at "go"
    refine r_lenS (by rw [mkS_len]; omega) ?_
    rw [mkS_len]
    walk_at "go"
    refine r_mulS rfl (by omega) (by omega) ?_
    have em : Txt.mul (Str.ofString " ") (((wid5 i : Nat) : Int) - ((wdAt a b c d e i).length : Nat)) = mkS (List.replicate (wid5 i - (wdAt a b c d e i).length) 32) := by
      refine ext_tl ?_
      rw [show TL.tl (Txt.mul (Str.ofString " ") (((wid5 i : Nat) : Int) - ((wdAt a b c d e i).length : Nat))) = List.replicate (((wid5 i : Nat) : Int) - ((wdAt a b c d e i).length : Nat)).toNat 32 from spaces_tl _]
      rw [show (((wid5 i : Nat) : Int) - ((wdAt a b c d e i).length : Nat)).toNat = wid5 i - (wdAt a b c d e i).length by omega]
      rfl
    rw [em]
    refine r_addS2 (by rw [mkS_len, mkS_len, List.length_replicate]; omega) ?_
    walk_at "go"
    refine r_ixL sl1 (Int.zero_add _) w1 ?_
    rw [mkS_app]
    refine r_addS2 (by rw [mkS_len, mkS_len, List.length_append, List.length_replicate]; omega) ?_
    rw [mkS_app, List.append_assoc]
    walk_at "go"
    have e1 : preL a b c d e i ++ (List.replicate (wid5 i - (wdAt a b c d e i).length) 32 ++ wdAt a b c d e i) = preL a b c d e (i + 1) := by rw [preL_step a b c d e hi]; rfl
    rw [e1]
    exact ⟨⟨_, rfl⟩, sameT sm s1⟩
  · rintro σ H' ⟨⟨x, rfl⟩, sm⟩
    walk_at "go"
    exact k _ sm
theorem use_lline {K : PySem.W.Frag} {H : Hp} {Q : VK} {E : XK} {p : Addr} {a b c d e : List Nat} (hw : SqL K H p [V.str (mkS a), .str (mkS b), .str (mkS c), .str (mkS d), .str (mkS e)]) (hl : a.length ≤ 80 ∧ b.length ≤ 80 ∧ c.length ≤ 80 ∧ d.length ≤ 80 ∧ e.length ≤ 80)
    (k : ∀ H', Same H H' → Q (.str (mkS (lnL a b c d e))) H') : spLLine K [.ref p] H Q E := ⟨p, a, b, c, d, e, rfl, hw, hl, k⟩
theorem wd_len {i : Int} (h0 : 0 ≤ i) (h1 : i < 1000000000000000000000000000000) : (wd i).length ≤ 60 := by
  have a := cmS_len i
  have b := dg_len h0 h1
  have c : (cmS i).length = (wd i).length := by unfold cmS wd; exact mkS_len _
  omega

end G57
end
section
set_option maxRecDepth 100000
set_option maxHeartbeats 4000000
namespace G57
open PySem PySem.Spec PyProof.Rows L2
/-! the walk's small steps: "rd" reads on as far as it can -/
local macro_rules | `(tactic| walk_at "fact") => `(tactic| fail)
local macro_rules | `(tactic| walk_at "rd1") => `(tactic| with_reducible first
  | (refine v_id ?_; first | refine r_var_0 ?_ | refine r_var_1 ?_ | refine r_var_2 ?_ | refine r_var_3 ?_ | refine r_var_4 ?_ | refine r_var_5 ?_ | refine r_var_6 ?_ | refine r_var_7 ?_ | refine r_var_8 ?_ | refine r_var_9 ?_ | refine r_var_10 ?_ | refine r_var_11 ?_ | refine r_var_12 ?_ | refine r_var_13 ?_ | refine r_var_14 ?_ | refine r_var_15 ?_ | refine r_var_16 ?_ | refine r_var_17 ?_ | refine r_var_18 ?_ | refine r_var_19 ?_ | refine r_var_20 ?_ | refine r_var_21 ?_ | refine r_var_22 ?_ | refine r_var_23 ?_ | refine r_var_24 ?_ | refine r_var_25 ?_ | refine r_var_26 ?_ | refine r_var_27 ?_ | refine r_var rfl ?_)
  | (refine s_id ?_; first | refine r_set_0 ?_ | refine r_set_1 ?_ | refine r_set_2 ?_ | refine r_set_3 ?_ | refine r_set_4 ?_ | refine r_set_5 ?_ | refine r_set_6 ?_ | refine r_set_7 ?_ | refine r_set_8 ?_ | refine r_set_9 ?_ | refine r_set_10 ?_ | refine r_set_11 ?_ | refine r_set_12 ?_ | refine r_set_13 ?_ | refine r_set_14 ?_ | refine r_set_15 ?_ | refine r_set_16 ?_ | refine r_set_17 ?_ | refine r_set_18 ?_ | refine r_set_19 ?_ | refine r_set_20 ?_ | refine r_set_21 ?_ | refine r_set_22 ?_ | refine r_set_23 ?_ | refine r_set_24 ?_ | refine r_set_25 ?_ | refine r_set_26 ?_ | refine r_set_27 ?_ | refine r_setU ?_)
  | refine r_c ?_
  | refine r_op ?_
  | refine r_I0 ?_
  | refine r_seq ?_
  | refine r_asg ?_
  | refine r_fld ?_
  | refine r_nil ?_
  | refine r_cons ?_
  | refine r_cb ?_
  | refine r_max ?_
  | refine r_min ?_
  | refine r_ret ?_
  | refine r_met ?_
  | refine r_call ?_
  | refine r_B ?_
  | refine r_test ?_
  | refine r_b' ?_
  | refine r_ifS ?_
  | refine r_if ?_
  | refine r_par ?_
  | refine r_par2 ?_
  | refine r_drop ?_
  | refine r_next ?_
  | refine r_make ?_
  | refine r_sfld ?_
  | refine r_int1 ?_
  | refine r_intb ?_
  | refine r_and ?_
  | refine r_or ?_
  | refine r_not ?_
  | refine r_chain ?_
  | refine r_isN ?_
  | refine r_notN ?_
  | refine r_un ?_
  | refine r_U ?_
  | refine r_par3 ?_
  | refine r_par33 ?_
  | refine r_tup ?_
  | refine r_lst ?_
  | refine r_prop ?_
  | refine r_bm ?_
  | refine r_bm0 ?_
  | refine r_andV ?_
  | refine r_orV ?_
  | refine r_notV ?_
  | refine r_asgG ?_
  | refine r_gname ?_
  | refine r_gcons ?_
  | refine r_gnil ?_
  | refine r_rng1 ?_
  | refine r_rng2 ?_
  | refine r_for ?_
  | refine r_lc1 ?_
  | refine r_lc2 ?_
  | refine r_lc3 ?_
  | refine r_lc ?_
  | refine r_while ?_
  | refine r_rev ?_
  | refine r_sl ?_
  | refine r_augS ?_
  | refine r_iL ?_
  | refine r_iT ?_
  | refine r_iE ?_
  | refine r_ipI ?_
  | refine r_aug rfl ?_
  | refine r_cval ?_
  | refine r_turnN ?_
  | refine iT ?_
  | refine iNT ?_
  | refine iNF ?_
  | refine iOF ?_
  | refine iF ?_
  | refine r_part ?_
  | refine r_pi ?_
  | refine r_gsub ?_
  | refine r_noPart ?_)
local macro_rules | `(tactic| walk_at "rd") => `(tactic| (repeat (first | walk_at "rd1" | walk_at "fact")))
local macro_rules | `(tactic| walk_at "plen") => `(tactic| (repeat (first | decide | refine putF_lt ?_)))
local macro_rules | `(tactic| walk_at "rs") => `(tactic| (repeat ((fail_if_success (with_reducible refine r_stop ?_)); (first | walk_at "rd1" | walk_at "fact"))))
/-! finding a fact in the present heap by the way back; each rule is applied by its conclusion before its premises are sought -/
local macro_rules | `(tactic| walk_at "atx") => `(tactic| fail)
local macro_rules | `(tactic| walk_at "c_h") => `(tactic| first
  | with_reducible assumption
  | ((with_reducible apply hat_s); (with_reducible assumption); walk_at "c_h"))
local macro_rules | `(tactic| walk_at "c_n") => `(tactic| first
  | with_reducible assumption
  | ((with_reducible apply hat_ne); (with_reducible assumption); walk_at "c_h"))
local macro_rules | `(tactic| walk_at "c_o") => `(tactic| first
  | with_reducible assumption
  | with_reducible exact upd_same
  | ((with_reducible apply at_s); (with_reducible assumption); walk_at "c_o")
  | ((with_reducible apply atd_tup); (with_reducible assumption); walk_at "c_h"; walk_at "c_o")
  | ((with_reducible apply atd_ins); (with_reducible assumption); walk_at "c_h"; walk_at "c_o")
  | ((with_reducible apply atd_lst); (with_reducible assumption); walk_at "c_n"; walk_at "c_o")
  | ((with_reducible apply atx_tup); (with_reducible assumption); walk_at "c_o"; walk_at "c_o")
  | ((with_reducible apply atx_ins); (with_reducible assumption); walk_at "c_o"; walk_at "c_o")
  | ((with_reducible apply atx_ne); (with_reducible assumption); (with_reducible assumption); walk_at "c_o"))
local macro_rules | `(tactic| walk_at "c_q") => `(tactic| first
  | with_reducible assumption
  | ((with_reducible apply sqL_s); (with_reducible assumption); walk_at "c_q"))
local macro_rules | `(tactic| walk_at "c_t") => `(tactic| first
  | with_reducible assumption
  | ((with_reducible apply sqT_s); (with_reducible assumption); walk_at "c_t")
  | ((with_reducible apply sqT_d); (with_reducible assumption); walk_at "c_h"; walk_at "c_t")
  | ((with_reducible apply sqT_x); (with_reducible assumption); walk_at "c_o"; walk_at "c_t"))
local macro_rules | `(tactic| walk_at "c_p") => `(tactic| first
  | with_reducible assumption
  | ((with_reducible apply pairs_s); (with_reducible assumption); walk_at "c_p"))
local macro_rules | `(tactic| walk_at "at") => `(tactic| first
  | with_reducible assumption
  | with_reducible exact upd_same
  | walk_at "atx"
  | ((with_reducible apply sqL_at); walk_at "c_o")
  | ((with_reducible apply sqL_s); (with_reducible assumption); walk_at "c_q")
  | ((with_reducible apply sqT_at); walk_at "c_o")
  | ((with_reducible apply sqT_id); walk_at "c_t")
  | ((with_reducible apply hat_id); walk_at "c_h")
  | ((with_reducible apply pairs_id); walk_at "c_p")
  | ((with_reducible apply ne_id); walk_at "c_n")
  | ((with_reducible apply at_id); walk_at "c_o"))
/-! a length, an inequality -/
local macro_rules | `(tactic| walk_at "le") => `(tactic| first | exact Nat.le_of_ble_eq_true rfl | omega | (simp; done) | (simp; omega))
local macro_rules | `(tactic| walk_at "ar") => `(tactic| first | omega | exact ⟨by omega, by omega⟩ | exact .inl ⟨by omega, by omega⟩ | exact .inr ⟨by omega, by omega⟩ | exact .inr (by omega) | exact .inl (by omega) | exact ⟨by omega, by omega, by omega⟩ | decide)
/-! calls of the text's own defs, with letters for what they leave -/
local macro_rules | `(tactic| walk_at "use") => `(tactic| fail)
local macro_rules | `(tactic| walk_at "go1") => `(tactic| first
  | walk_at "rd1"
  | walk_at "fact"
  | walk_at "use"
  | with_reducible refine r_p6 ?_
  | with_reducible refine r_p8 ?_
  | with_reducible refine r_p9 ?_
  | with_reducible refine r_p10 ?_
  | with_reducible refine r_p12 ?_
  | with_reducible refine r_p14 ?_
  | with_reducible refine r_p15 ?_
  | with_reducible refine r_p17 ?_
  | with_reducible refine r_p18 ?_
  | ((with_reducible apply r_I); walk_at "ar")
  | ((with_reducible apply a_neNil); walk_at "at"; intro _ _)
  | ((with_reducible apply a_eqNil); walk_at "at"; intro _ _)
  | ((with_reducible apply a_nwT); walk_at "le"; intro _ _ _ _ _)
  | ((with_reducible apply a_nwL); walk_at "le"; intro _ _ _ _ _)
  | ((with_reducible apply r_ixL (j := 0)); walk_at "at"; rfl; rfl)
  | ((with_reducible apply r_ixL (j := 1)); walk_at "at"; rfl; rfl)
  | ((with_reducible apply r_ixL (j := 2)); walk_at "at"; rfl; rfl)
  | ((with_reducible apply r_ixL (j := 3)); walk_at "at"; rfl; rfl)
  | ((with_reducible apply r_ixT (j := 0)); walk_at "at"; rfl; rfl)
  | ((with_reducible apply r_ixT (j := 1)); walk_at "at"; rfl; rfl)
  | ((with_reducible apply r_ixT (j := 2)); walk_at "at"; rfl; rfl)
  | ((with_reducible apply a_pick2); walk_at "at"; omega; omega; intro _ _)
  | ((with_reducible apply a_pick3); walk_at "at"; omega; omega; intro _ _)
  | ((with_reducible apply a_pick4); walk_at "at"; omega; omega; intro _ _)
  | ((with_reducible apply r_gtup); walk_at "at"; rfl)
  | ((with_reducible apply a_lenLI); walk_at "at")
  | ((with_reducible apply r_lenL); walk_at "at")
  | ((with_reducible apply r_lenT); walk_at "at")
  | ((with_reducible apply r_tyL); walk_at "at")
  | ((with_reducible apply a_cat); walk_at "at"; walk_at "at"; walk_at "le"; intro _ _ _ _ _)
  | ((with_reducible apply a_listL); walk_at "at"; intro _ _ _ _ _)
  | ((with_reducible apply a_tupL); walk_at "at"; intro _ _ _ _ _)
  | ((with_reducible apply a_slL); walk_at "at"; intro _ _ _ _ _)
  | ((with_reducible apply a_revL); walk_at "at"; intro _ _ _ _ _)
  | ((with_reducible apply r_sumT); walk_at "at")
  | ((with_reducible apply r_sumL); walk_at "at")
  | ((with_reducible refine ⟨_, rfl, ?_, ?_, ?_⟩); omega; omega)
  | ((with_reducible refine ⟨_, _, rfl, ⟨?_, ?_, ?_, ?_⟩, ?_⟩); omega; omega; omega; omega)
  | with_reducible refine ⟨_, rfl, ⟨_, by walk_at "at"⟩, ?_⟩)
local macro_rules | `(tactic| walk_at "go") => `(tactic| (repeat (walk_at "go1")))
local macro_rules | `(tactic| walk_at "sames") => `(tactic| first | exact sameR | assumption | ((with_reducible apply sameB); assumption; walk_at "sames"))
local macro_rules | `(tactic| walk_at "sameds") => `(tactic| first | assumption | ((with_reducible apply sameD_of); walk_at "sames"; done) | ((with_reducible apply sameDB); assumption; walk_at "sameds") | ((with_reducible apply sameDS); assumption; walk_at "sameds"))
local macro_rules | `(tactic| walk_at "gs") => `(tactic| (repeat ((fail_if_success (with_reducible refine r_stop ?_)); (walk_at "go1"))))
open TL CwR
def noV : Option Nat → V
  | none => .non
  | some n => .int (n : Nat)
def spNof : Sp := fun vs H Q _ => ∃ l : List Nat, vs = [.str (mkS l)] ∧ l.length ≤ 100 ∧ ∀ H', Same H H' → Q (noV (nbOf l)) H'
local macro_rules | `(tactic| walk_at "fact") => `(tactic| first
  | ((with_reducible apply r_lenS); (with_reducible assumption))
  | ((with_reducible apply r_slS); (with_reducible assumption))
  | with_reducible refine r_repl ?_
  | with_reducible refine r_iS ?_
  | with_reducible refine r_iSR ?_
  | with_reducible refine r_inSg ?_
  | with_reducible refine r_leS ?_
  | with_reducible refine r_m1 ?_
  | with_reducible refine r_m1R ?_)
theorem ok_number_of {P : Program} {w : World} {K : PySem.W.Frag} {mg : Str → Option Value} {base : Heap} (T : Tx K mg) : C8.Cal P w K mg base 1 "number_of" (spNof) [] := by
  refine calT_of (d := d_number_of) (x := "number_of") (fn_number_of T) rfl rfl (fg_number_of T) sc_number_of (fun _ _ _ _ _ _ us hl => match us, hl with | [_], _ => rfl) (by decide +kernel) (by decide) (fun vs H Q E h => ?_) (fun cdv A outer s H vs Q E hr h => ?_)
  · obtain ⟨l, rfl, hl, k⟩ := h
    rfl
  obtain ⟨l, rfl, hl, k⟩ := h
  refine ⟨_, (psst_cons (pst_set (i := 1) sc_number_of.nd rfl (Or.inl rfl) (pet_replC (pv 0) (by decide)))
      (PSsT.of (pss_cons (ps_if (PW.pt (pw_or (pt_cmpR op_eq (pv 1) pe_str (nomark _)) (pw_or1 (pt_not (pt_val (pe_callB (cr_all rfl) (by rfl) (fn_all T) bb_all (pa_cons (pe_lc (own := [("digit", 2)]) (by rfl) sc_number_of.nd (pi_str (pv 1)) (blkOk_by (own := [("digit", 2)]) (N := ["word", "digits", "digit"]) (sc := defScope s_number_of) (by decide +kernel)) (fun _ _ _ _ _ => (pg_name (i := 2) sc_number_of.nd rfl (Or.inl rfl))) (fun _ _ _ _ _ => pts_nil) (fun _ _ _ _ _ => by exact (pe_cmpR op_inSg (pv 2) (C8.pe_gc rfl (gc_str (fi_DIGITS T))) (by rfl)))) pa_nil))))))) (pss_one (ps_ret pe_non)) pss_nil)
      (pss_one (ps_ret (pe_callTy cq_intS (by rfl) (fn_int T) bb_int (pa_cons (pv 1) pa_nil))))))), ?_⟩
  try dsimp only [cxOf, Cx.nox, Cx.wish]
  repeat rw [st_cons]
  repeat rw [st_none]
  try rw [st_nn]
  have lim := sizeBig
  have fl := List.length_filter_le (fun c => decide (c ≠ 44)) l
  obtain ⟨f, hf⟩ : ∃ f, f = l.filter (fun c => decide (c ≠ 44)) := ⟨_, rfl⟩
  walk_at "go"
  refine r_replR (by rw [mkS_len]; show l.length + (l.length + 1) * 0 ≤ _; omega) ?_
  rw [replace_one, ← hf]
  rw [← hf] at fl
  have eN : nbOf l = if f = [] ∨ f.all isD = false then none else some (NumText.digitsVal f) := by rw [hf]; rfl
  rw [eN] at k
  walk_at "rd"
  refine r_eqS (by rfl) ?_
  by_cases c : f = []
  · rw [if_pos (.inl c)] at k
    subst c
    walk_at "rd"
    refine iY rfl ?_
    walk_at "rd"
    exact k _ sameR
  · walk_at "rd"
    refine iN (fun z => c ?_) ?_
    · have := V.str.inj z
      exact mkS_inj.mp (show mkS f = mkS [] from this)
    walk_at "gs"
    refine lcS (fun _ => true) (fun c => V.bl (isD c)) (by show f.length ≤ _; omega) (fun c H' Z hc s1 z => ?_) (fun c H' Z hc q s1 z => ?_) fun D H1 hD s1 hl1 => ?_
    · walk_at "gs"
      exact z _ sameR
    · walk_at "gs"
      exact r_inSg (by rw [inDig]; exact z _ sameR)
    have hl2 : H1 D = some (.lst ((f.map isD).map V.bl)) := by
      rw [hl1, tl_mkS, List.map_map, List.filter_eq_self.mpr (fun _ _ => rfl)]
      rfl
    walk_at "rd"
    refine ⟨D, f.map isD, rfl, sqL_at hl2, ?_⟩
    have ea : (f.map isD).all id = f.all isD := by rw [List.all_map]; rfl
    rw [ea]
    by_cases c2 : f.all isD = true
    · rw [if_neg (by rw [c2]; simp [c])] at k
      rw [c2]
      refine ⟨true, rfl, ?_⟩
      rw [if_neg (by simp)]
      walk_at "rd"
      refine r_intS (int_of c2 c (by omega)) (by rw [mkS_len]; omega) ?_
      exact k _ s1
    · have c3 : f.all isD = false := by simpa using c2
      rw [if_pos (.inr c3)] at k
      rw [c3]
      refine ⟨false, rfl, ?_⟩
      rw [if_pos (by simp)]
      walk_at "rd"
      exact k _ s1
theorem use_nof {H : Hp} {Q : VK} {E : XK} {l : List Nat} (hl : l.length ≤ 100) (k : ∀ H', Same H H' → Q (noV (nbOf l)) H') : spNof [.str (mkS l)] H Q E := ⟨l, rfl, hl, k⟩
theorem dv_lt30 {l : List Nat} (h : l.length ≤ 30) (a : NumText.AllDigits l) : ((NumText.digitsVal l : Nat) : Int) < 1000000000000000000000000000000 := by
  have h1 := dv_lt _ l rfl a
  have h2 : 10 ^ l.length ≤ 10 ^ 30 := Nat.pow_le_pow_right (by decide) h
  have h3 : (10 : Nat) ^ 30 = 1000000000000000000000000000000 := by decide
  omega
theorem filter_all {l : List Nat} : (l.filter isD).all isD = true := by
  rw [List.all_eq_true]
  intro c hc
  exact (List.mem_filter.mp hc).2
theorem lt1 (a b : Nat) : ([a] : List Nat) < [b] ↔ a < b := by
  rw [List.cons_lt_cons_iff]
  constructor
  · rintro (h | ⟨_, h⟩)
    · exact h
    · exact absurd h (List.lt_irrefl _)
  · exact .inl
theorem leD (c : Nat) : (!decide ((sg c).cps.toList < (Str.ofString "0").cps.toList)) = decide (48 ≤ c) ∧ (!decide ((Str.ofString "9").cps.toList < (sg c).cps.toList)) = decide (c ≤ 57) := by
  have e0 : (Str.ofString "0").cps.toList = [48] := by decide +kernel
  have e9 : (Str.ofString "9").cps.toList = [57] := by decide +kernel
  have es : (sg c).cps.toList = [c] := rfl
  rw [e0, e9, es]
  have h1 := lt1 c 48
  have h2 := lt1 57 c
  constructor
  · by_cases h : c < 48
    · rw [decide_eq_true (h1.mpr h), decide_eq_false (by omega)]; rfl
    · rw [decide_eq_false (fun z => h (h1.mp z)), decide_eq_true (by omega)]; rfl
  · by_cases h : 57 < c
    · rw [decide_eq_true (h2.mpr h), decide_eq_false (by omega)]; rfl
    · rw [decide_eq_false (fun z => h (h2.mp z)), decide_eq_true (by omega)]; rfl
def spLno : Sp := fun vs H Q _ => ∃ l : List Nat, vs = [.str (mkS l)] ∧ l.length ≤ 30 ∧ ∀ H', Same H H' → Q (noV (lnOf l)) H'
theorem ok_law_number {P : Program} {w : World} {K : PySem.W.Frag} {mg : Str → Option Value} {base : Heap} (T : Tx K mg) : C8.Cal P w K mg base 2 "_law_number" (spLno) [] := by
  have G_law_grouped := ok_law_grouped (P := P) (w := w) (base := base) T
  refine cal_of (d := d_law_number) (x := "_law_number") (fn_law_number T) rfl rfl (fg_law_number T) sc_law_number (fun _ _ _ _ _ _ us hl => match us, hl with | [_], _ => rfl) (fun vs H Q E h => ?_) (fun cdv A outer s H vs Q E hr h => ?_)
  · obtain ⟨l, rfl, hl, k⟩ := h
    rfl
  obtain ⟨l, rfl, hl, k⟩ := h
  refine ⟨_, (pss_cons (ps_set (i := 2) sc_law_number.nd rfl (Or.inl rfl) (pe_joinN pe_str (pe_lc (own := [("_law_one", 1)]) (by rfl) sc_law_number.nd (pi_str (pv 0)) (blkOk_by (own := [("_law_one", 1)]) (N := ["_law_text", "_law_one", "_law_digits"]) (sc := defScope s_law_number) (by decide +kernel)) (fun _ _ _ _ _ => (pg_name (i := 1) sc_law_number.nd rfl (Or.inl rfl))) (fun _ _ _ _ _ => by exact (pts_one (pt_chain op_leS op_leS pe_str (pv 1) pe_str))) (fun _ _ _ _ _ => by exact (pv 1)))))
      (pss_cons (ps_if (PW.pt (pw_or (pt_cmpR op_eq (pv 2) pe_str (nomark _)) (pw_or1 (pt_cmpR op_ne (C8.pe_c G_law_grouped hr (by decide) (by rfl) (pa_cons (pe_callTy cq_intS (by rfl) (fn_int T) bb_int (pa_cons (pv 2) pa_nil)) pa_nil)) (pv 0) (nomark _))))) (pss_one (ps_ret pe_non)) pss_nil)
      (pss_one (ps_ret (pe_callTy cq_intS (by rfl) (fn_int T) bb_int (pa_cons (pv 2) pa_nil)))))), ?_⟩
  try dsimp only [cxOf, Cx.nox, Cx.wish]
  repeat rw [st_cons]
  repeat rw [st_none]
  try rw [st_nn]
  have lim := sizeBig
  obtain ⟨f, hf⟩ : ∃ f, f = l.filter isD := ⟨_, rfl⟩
  have fl := List.length_filter_le isD l
  rw [← hf] at fl
  have fa : f.all isD = true := by rw [hf]; exact filter_all
  have eN : lnOf l = if f = [] ∨ ¬ cmL (dg (NumText.digitsVal f)) = l then none else some (NumText.digitsVal f) := by rw [hf]; rfl
  rw [eN] at k
  walk_at "go"
  refine lcS isD (fun c => V.str (sg c)) (by show l.length ≤ _; omega) (fun c H' Z hc s1 z => ?_) (fun c H' Z hc q s1 z => ?_) fun D H1 hD s1 hl1 => ?_
  · walk_at "rd"
    rw [(leD c).1]
    have zz := z _ sameR
    unfold isD at zz
    by_cases h : 48 ≤ c
    · rw [decide_eq_true h] at zz ⊢
      rw [if_pos rfl]
      walk_at "rd"
      rw [(leD c).2]
      exact zz
    · rw [decide_eq_false h] at zz ⊢
      rw [if_neg (by simp)]
      exact ⟨_, rfl, zz⟩
  · walk_at "rd"
    exact z _ sameR
  rw [tl_mkS, ← hf] at hl1
  walk_at "rd"
  have em : (f.map fun c => V.str (sg c)) = (f.map sg).map V.str := by rw [List.map_map]; rfl
  rw [em] at hl1
  have sum : ∀ l : List Nat, ((l.map sg).map (·.length)).sum = l.length := fun l => by
    induction l with
    | nil => rfl
    | cons c l ih => rw [List.map_cons, List.map_cons, List.sum_cons, ih, List.length_cons, show (sg c).length = 1 from rfl]; omega
  have l0 : (Str.ofString "").length = 0 := by decide +kernel
  refine r_joinN (a := Str.ofString "") (sqL_at hl1) (by rw [sum, l0]; omega) ?_
  have ej : Txt.join (Str.ofString "") (f.map sg) = mkS f := by
    refine ext_tl ?_
    rw [join_eq, tl_join, List.map_map, show TL.tl (Str.ofString "") = [] from by decide +kernel]
    have : ∀ l : List Nat, joinL [] (l.map (TL.tl ∘ sg)) = l := by
      intro l
      induction l with
      | nil => rfl
      | cons c l ih =>
        cases l with
        | nil => rfl
        | cons d l => 
          show [c] ++ ([] ++ joinL [] ((d :: l).map (TL.tl ∘ sg))) = _
          rw [ih]; rfl
    exact this f
  rw [ej]
  walk_at "rd"
  refine r_eqS (by rfl) ?_
  by_cases c : f = []
  · rw [if_pos (.inl c)] at k
    rw [c]
    walk_at "rd"
    refine iY rfl ?_
    walk_at "rd"
    exact k _ s1
  · walk_at "rd"
    refine iN (fun z => c ?_) ?_
    · have := V.str.inj z
      exact mkS_inj.mp (show mkS f = mkS [] from this)
    walk_at "rd"
    refine r_intS (int_of fa c (by omega)) (by rw [mkS_len]; omega) ?_
    walk_at "rd"
    refine use_grp (Int.natCast_nonneg _) (dv_lt30 (by omega) (allD fa)) fun H2 s2 => ?_
    walk_at "rd"
    have ew : wd ((NumText.digitsVal f : Nat) : Int) = cmL (dg (NumText.digitsVal f)) := rfl
    rw [ew]
    refine r_neS (by rfl) ?_
    by_cases c2 : cmL (dg (NumText.digitsVal f)) = l
    · rw [if_neg (by simp [c, c2])] at k
      walk_at "rd"
      refine iN' (congrArg (fun z => V.str (mkS z)) c2) ?_
      walk_at "rd"
      refine r_intS (int_of fa c (by omega)) (by rw [mkS_len]; omega) ?_
      exact k _ (sameT s1 s2)
    · rw [if_pos (.inr c2)] at k
      walk_at "rd"
      refine iY' (fun z => c2 (mkS_inj.mp (V.str.inj z))) ?_
      walk_at "rd"
      exact k _ (sameT s1 s2)
theorem use_lno {H : Hp} {Q : VK} {E : XK} {l : List Nat} (hl : l.length ≤ 30) (k : ∀ H', Same H H' → Q (noV (lnOf l)) H') : spLno [.str (mkS l)] H Q E := ⟨l, rfl, hl, k⟩

end G57
end
section
set_option maxRecDepth 100000
set_option maxHeartbeats 4000000
namespace G57
open PySem PySem.Spec PyProof.Rows L2
/-! the walk's small steps: "rd" reads on as far as it can -/
local macro_rules | `(tactic| walk_at "fact") => `(tactic| fail)
local macro_rules | `(tactic| walk_at "rd1") => `(tactic| with_reducible first
  | (refine v_id ?_; first | refine r_var_0 ?_ | refine r_var_1 ?_ | refine r_var_2 ?_ | refine r_var_3 ?_ | refine r_var_4 ?_ | refine r_var_5 ?_ | refine r_var_6 ?_ | refine r_var_7 ?_ | refine r_var_8 ?_ | refine r_var_9 ?_ | refine r_var_10 ?_ | refine r_var_11 ?_ | refine r_var_12 ?_ | refine r_var_13 ?_ | refine r_var_14 ?_ | refine r_var_15 ?_ | refine r_var_16 ?_ | refine r_var_17 ?_ | refine r_var_18 ?_ | refine r_var_19 ?_ | refine r_var_20 ?_ | refine r_var_21 ?_ | refine r_var_22 ?_ | refine r_var_23 ?_ | refine r_var_24 ?_ | refine r_var_25 ?_ | refine r_var_26 ?_ | refine r_var_27 ?_ | refine r_var rfl ?_)
  | (refine s_id ?_; first | refine r_set_0 ?_ | refine r_set_1 ?_ | refine r_set_2 ?_ | refine r_set_3 ?_ | refine r_set_4 ?_ | refine r_set_5 ?_ | refine r_set_6 ?_ | refine r_set_7 ?_ | refine r_set_8 ?_ | refine r_set_9 ?_ | refine r_set_10 ?_ | refine r_set_11 ?_ | refine r_set_12 ?_ | refine r_set_13 ?_ | refine r_set_14 ?_ | refine r_set_15 ?_ | refine r_set_16 ?_ | refine r_set_17 ?_ | refine r_set_18 ?_ | refine r_set_19 ?_ | refine r_set_20 ?_ | refine r_set_21 ?_ | refine r_set_22 ?_ | refine r_set_23 ?_ | refine r_set_24 ?_ | refine r_set_25 ?_ | refine r_set_26 ?_ | refine r_set_27 ?_ | refine r_setU ?_)
  | refine r_c ?_
  | refine r_op ?_
  | refine r_I0 ?_
  | refine r_seq ?_
  | refine r_asg ?_
  | refine r_fld ?_
  | refine r_nil ?_
  | refine r_cons ?_
  | refine r_cb ?_
  | refine r_max ?_
  | refine r_min ?_
  | refine r_ret ?_
  | refine r_met ?_
  | refine r_call ?_
  | refine r_B ?_
  | refine r_test ?_
  | refine r_b' ?_
  | refine r_ifS ?_
  | refine r_if ?_
  | refine r_par ?_
  | refine r_par2 ?_
  | refine r_drop ?_
  | refine r_next ?_
  | refine r_make ?_
  | refine r_sfld ?_
  | refine r_int1 ?_
  | refine r_intb ?_
  | refine r_and ?_
  | refine r_or ?_
  | refine r_not ?_
  | refine r_chain ?_
  | refine r_isN ?_
  | refine r_notN ?_
  | refine r_un ?_
  | refine r_U ?_
  | refine r_par3 ?_
  | refine r_par33 ?_
  | refine r_tup ?_
  | refine r_lst ?_
  | refine r_prop ?_
  | refine r_bm ?_
  | refine r_bm0 ?_
  | refine r_andV ?_
  | refine r_orV ?_
  | refine r_notV ?_
  | refine r_asgG ?_
  | refine r_gname ?_
  | refine r_gcons ?_
  | refine r_gnil ?_
  | refine r_rng1 ?_
  | refine r_rng2 ?_
  | refine r_for ?_
  | refine r_lc1 ?_
  | refine r_lc2 ?_
  | refine r_lc3 ?_
  | refine r_lc ?_
  | refine r_while ?_
  | refine r_rev ?_
  | refine r_sl ?_
  | refine r_augS ?_
  | refine r_iL ?_
  | refine r_iT ?_
  | refine r_iE ?_
  | refine r_ipI ?_
  | refine r_aug rfl ?_
  | refine r_cval ?_
  | refine r_turnN ?_
  | refine iT ?_
  | refine iNT ?_
  | refine iNF ?_
  | refine iOF ?_
  | refine iF ?_
  | refine r_part ?_
  | refine r_pi ?_
  | refine r_gsub ?_
  | refine r_noPart ?_)
local macro_rules | `(tactic| walk_at "rd") => `(tactic| (repeat (first | walk_at "rd1" | walk_at "fact")))
local macro_rules | `(tactic| walk_at "plen") => `(tactic| (repeat (first | decide | refine putF_lt ?_)))
local macro_rules | `(tactic| walk_at "rs") => `(tactic| (repeat ((fail_if_success (with_reducible refine r_stop ?_)); (first | walk_at "rd1" | walk_at "fact"))))
/-! finding a fact in the present heap by the way back; each rule is applied by its conclusion before its premises are sought -/
local macro_rules | `(tactic| walk_at "atx") => `(tactic| fail)
local macro_rules | `(tactic| walk_at "c_h") => `(tactic| first
  | with_reducible assumption
  | ((with_reducible apply hat_s); (with_reducible assumption); walk_at "c_h"))
local macro_rules | `(tactic| walk_at "c_n") => `(tactic| first
  | with_reducible assumption
  | ((with_reducible apply hat_ne); (with_reducible assumption); walk_at "c_h"))
local macro_rules | `(tactic| walk_at "c_o") => `(tactic| first
  | with_reducible assumption
  | with_reducible exact upd_same
  | ((with_reducible apply at_s); (with_reducible assumption); walk_at "c_o")
  | ((with_reducible apply atd_tup); (with_reducible assumption); walk_at "c_h"; walk_at "c_o")
  | ((with_reducible apply atd_ins); (with_reducible assumption); walk_at "c_h"; walk_at "c_o")
  | ((with_reducible apply atd_lst); (with_reducible assumption); walk_at "c_n"; walk_at "c_o")
  | ((with_reducible apply atx_tup); (with_reducible assumption); walk_at "c_o"; walk_at "c_o")
  | ((with_reducible apply atx_ins); (with_reducible assumption); walk_at "c_o"; walk_at "c_o")
  | ((with_reducible apply atx_ne); (with_reducible assumption); (with_reducible assumption); walk_at "c_o"))
local macro_rules | `(tactic| walk_at "c_q") => `(tactic| first
  | with_reducible assumption
  | ((with_reducible apply sqL_s); (with_reducible assumption); walk_at "c_q"))
local macro_rules | `(tactic| walk_at "c_t") => `(tactic| first
  | with_reducible assumption
  | ((with_reducible apply sqT_s); (with_reducible assumption); walk_at "c_t")
  | ((with_reducible apply sqT_d); (with_reducible assumption); walk_at "c_h"; walk_at "c_t")
  | ((with_reducible apply sqT_x); (with_reducible assumption); walk_at "c_o"; walk_at "c_t"))
local macro_rules | `(tactic| walk_at "c_p") => `(tactic| first
  | with_reducible assumption
  | ((with_reducible apply pairs_s); (with_reducible assumption); walk_at "c_p"))
local macro_rules | `(tactic| walk_at "at") => `(tactic| first
  | with_reducible assumption
  | with_reducible exact upd_same
  | walk_at "atx"
  | ((with_reducible apply sqL_at); walk_at "c_o")
  | ((with_reducible apply sqL_s); (with_reducible assumption); walk_at "c_q")
  | ((with_reducible apply sqT_at); walk_at "c_o")
  | ((with_reducible apply sqT_id); walk_at "c_t")
  | ((with_reducible apply hat_id); walk_at "c_h")
  | ((with_reducible apply pairs_id); walk_at "c_p")
  | ((with_reducible apply ne_id); walk_at "c_n")
  | ((with_reducible apply at_id); walk_at "c_o"))
/-! a length, an inequality -/
local macro_rules | `(tactic| walk_at "le") => `(tactic| first | exact Nat.le_of_ble_eq_true rfl | omega | (simp; done) | (simp; omega))
local macro_rules | `(tactic| walk_at "ar") => `(tactic| first | omega | exact ⟨by omega, by omega⟩ | exact .inl ⟨by omega, by omega⟩ | exact .inr ⟨by omega, by omega⟩ | exact .inr (by omega) | exact .inl (by omega) | exact ⟨by omega, by omega, by omega⟩ | decide)
/-! calls of the text's own defs, with letters for what they leave -/
local macro_rules | `(tactic| walk_at "use") => `(tactic| fail)
local macro_rules | `(tactic| walk_at "go1") => `(tactic| first
  | walk_at "rd1"
  | walk_at "fact"
  | walk_at "use"
  | with_reducible refine r_p6 ?_
  | with_reducible refine r_p8 ?_
  | with_reducible refine r_p9 ?_
  | with_reducible refine r_p10 ?_
  | with_reducible refine r_p12 ?_
  | with_reducible refine r_p14 ?_
  | with_reducible refine r_p15 ?_
  | with_reducible refine r_p17 ?_
  | with_reducible refine r_p18 ?_
  | ((with_reducible apply r_I); walk_at "ar")
  | ((with_reducible apply a_neNil); walk_at "at"; intro _ _)
  | ((with_reducible apply a_eqNil); walk_at "at"; intro _ _)
  | ((with_reducible apply a_nwT); walk_at "le"; intro _ _ _ _ _)
  | ((with_reducible apply a_nwL); walk_at "le"; intro _ _ _ _ _)
  | ((with_reducible apply r_ixL (j := 0)); walk_at "at"; rfl; rfl)
  | ((with_reducible apply r_ixL (j := 1)); walk_at "at"; rfl; rfl)
  | ((with_reducible apply r_ixL (j := 2)); walk_at "at"; rfl; rfl)
  | ((with_reducible apply r_ixL (j := 3)); walk_at "at"; rfl; rfl)
  | ((with_reducible apply r_ixT (j := 0)); walk_at "at"; rfl; rfl)
  | ((with_reducible apply r_ixT (j := 1)); walk_at "at"; rfl; rfl)
  | ((with_reducible apply r_ixT (j := 2)); walk_at "at"; rfl; rfl)
  | ((with_reducible apply a_pick2); walk_at "at"; omega; omega; intro _ _)
  | ((with_reducible apply a_pick3); walk_at "at"; omega; omega; intro _ _)
  | ((with_reducible apply a_pick4); walk_at "at"; omega; omega; intro _ _)
  | ((with_reducible apply r_gtup); walk_at "at"; rfl)
  | ((with_reducible apply a_lenLI); walk_at "at")
  | ((with_reducible apply r_lenL); walk_at "at")
  | ((with_reducible apply r_lenT); walk_at "at")
  | ((with_reducible apply r_tyL); walk_at "at")
  | ((with_reducible apply a_cat); walk_at "at"; walk_at "at"; walk_at "le"; intro _ _ _ _ _)
  | ((with_reducible apply a_listL); walk_at "at"; intro _ _ _ _ _)
  | ((with_reducible apply a_tupL); walk_at "at"; intro _ _ _ _ _)
  | ((with_reducible apply a_slL); walk_at "at"; intro _ _ _ _ _)
  | ((with_reducible apply a_revL); walk_at "at"; intro _ _ _ _ _)
  | ((with_reducible apply r_sumT); walk_at "at")
  | ((with_reducible apply r_sumL); walk_at "at")
  | ((with_reducible refine ⟨_, rfl, ?_, ?_, ?_⟩); omega; omega)
  | ((with_reducible refine ⟨_, _, rfl, ⟨?_, ?_, ?_, ?_⟩, ?_⟩); omega; omega; omega; omega)
  | with_reducible refine ⟨_, rfl, ⟨_, by walk_at "at"⟩, ?_⟩)
local macro_rules | `(tactic| walk_at "go") => `(tactic| (repeat (walk_at "go1")))
local macro_rules | `(tactic| walk_at "sames") => `(tactic| first | exact sameR | assumption | ((with_reducible apply sameB); assumption; walk_at "sames"))
local macro_rules | `(tactic| walk_at "sameds") => `(tactic| first | assumption | ((with_reducible apply sameD_of); walk_at "sames"; done) | ((with_reducible apply sameDB); assumption; walk_at "sameds") | ((with_reducible apply sameDS); assumption; walk_at "sameds"))
local macro_rules | `(tactic| walk_at "gs") => `(tactic| (repeat ((fail_if_success (with_reducible refine r_stop ?_)); (walk_at "go1"))))
local macro_rules | `(tactic| walk_at "c_d") => `(tactic| first
  | with_reducible assumption
  | ((with_reducible apply bakD_s); (with_reducible assumption); walk_at "c_d")
  | ((with_reducible apply bakD_d); (with_reducible assumption); walk_at "c_h"; walk_at "c_d"))
local macro_rules | `(tactic| walk_at "c_b") => `(tactic| first
  | with_reducible assumption
  | ((with_reducible apply bakAt_s); (with_reducible assumption); walk_at "c_b"))
local macro_rules | `(tactic| walk_at "c_a") => `(tactic| first
  | with_reducible assumption
  | ((with_reducible apply bakAt_D); walk_at "c_d")
  | walk_at "c_b")
local macro_rules | `(tactic| walk_at "c_m1") => `(tactic| first
  | with_reducible assumption
  | ((with_reducible apply bakM_s); (with_reducible assumption); walk_at "c_m1"))
local macro_rules | `(tactic| walk_at "c_m") => `(tactic| first
  | with_reducible assumption
  | ((with_reducible apply bakM_at); walk_at "c_a")
  | walk_at "c_m1")
local macro_rules | `(tactic| walk_at "atx") => `(tactic| first
  | ((with_reducible apply bakD_id); walk_at "c_d")
  | ((with_reducible apply bakAt_id); walk_at "c_a")
  | ((with_reducible apply bakM_id); walk_at "c_m")
  | ((with_reducible apply bakC_M); walk_at "c_m"))
local macro_rules | `(tactic| walk_at "ok") => `(tactic| first | assumption | exact BakD.ok (by assumption) | exact BakAt.ok (by assumption))
local macro_rules | `(tactic| walk_at "use") => `(tactic| first
  | ((with_reducible apply mBk); walk_at "at"; decide)
  | ((with_reducible apply pBk); walk_at "at")
  | ((with_reducible apply use_stk); walk_at "at"; omega; omega; intro _ _)
  | ((with_reducible apply use_msd); walk_at "at"; omega; omega; intro _ _)
  | ((with_reducible apply use_thn); walk_at "at"; omega; omega; intro _ _)
  | ((with_reducible apply use_sld); walk_at "at"; omega; omega; intro _ _)
  | ((with_reducible apply use_tot); walk_at "at"; omega; omega; intro _ _ _ _)
  | ((with_reducible apply use_shf); walk_at "at"; omega; omega; intro _ _ _ _ _ _)
  | ((with_reducible apply use_sdy); walk_at "at"; intro _ _ _)
  | ((with_reducible apply use_lrn); walk_at "at"; intro _ _ _ _)
  | ((with_reducible apply use_bks); walk_at "at"; intro _ _)
  | ((with_reducible apply use_dms); walk_at "at"; intro _ _)
  | ((with_reducible apply use_lif); walk_at "at")
  | ((with_reducible apply use_nxt); walk_at "at"; omega; omega; intro _ _ _ _ _ _)
  | ((with_reducible apply use_num); omega; omega)
  | ((with_reducible apply use_liv); walk_at "at"; (exact liv_ok (by walk_at "ok") (by omega) (by omega)); intro _ _ _ _)
  | ((with_reducible apply use_mor); walk_at "at"; assumption; intro _ _ _ _)
  | ((with_reducible apply a_maxB); walk_at "at"; walk_at "ok"; intro _ _ _)
  | ((with_reducible apply a_minB); walk_at "at"; walk_at "ok"; intro _ _ _)
  | with_reducible refine r_cvalR (fcv_Bakery_MAX_LIFE ‹_›) ?_
  | ((with_reducible apply a_lenTB); walk_at "at")
  | ((with_reducible apply a_lenTD); walk_at "at"; walk_at "ok")
  | ((with_reducible apply a_ixD); walk_at "at"; walk_at "ok")
  | ((with_reducible apply a_ixB); walk_at "at"; walk_at "ok"; omega))
local macro_rules | `(tactic| walk_at "alk") => `(tactic| first
  | ((with_reducible apply alk_tup); walk_at "at"; walk_at "at"; walk_at "le")
  | ((with_reducible apply alk_lst); walk_at "at"; walk_at "at"; walk_at "le")
  | ((with_reducible apply use_alkL); walk_at "at"; walk_at "at"; walk_at "le")
  | ((with_reducible apply use_alkT); walk_at "at"; walk_at "at"; walk_at "le"))
open TL
/-- the report's line of a day -/
def dayL (B : Bak) (d : Nat) : List Nat := lnL (wd (d : Int)) (wd (B.bk d)) (wd (B.wish d - B.ms d)) (wd (B.ms d)) (wd (B.th d))
def codes (s : String) : List Nat := tl (Str.ofString s)
def headL : List Nat := lnL (codes "day") (codes "baked") (codes "sold") (codes "missed") (codes "thrown")
def repL (B : Bak) (f n : Nat) : List (List Nat) := headL :: (List.range n).map fun i => dayL B (f + i)
theorem st_le29 {B : Bak} (h : B.Ok) : ∀ d : Nat, B.st d ≤ 29000000000
  | 0 => by show (0 : Int) ≤ _; decide
  | k + 1 => by
    have := kept_le h (k : Nat)
    have e : B.st (k + 1) = min (max (B.st k + (B.bk k - B.wish k)) 0) (B.kept k) := rfl
    rw [e]
    omega
theorem th_in {B : Bak} (h : B.Ok) (d : Nat) : 0 ≤ B.th d ∧ B.th d ≤ 30000000000 := by
  have h1 := st_le29 h d
  have h2 := h.kept0 d
  have h3 := h.bk_in d
  have h4 := h.wish_in d
  have e : B.th d = 0 + max 0 (B.st d - (B.kept d - (B.bk d - B.wish d))) := rfl
  rw [e]
  omega
theorem day_bounds {B : Bak} (h : B.Ok) {d : Nat} (hd : d ≤ 10000000000000000000) : ∀ x ∈ [(d : Int), B.bk d, B.wish d - B.ms d, B.ms d, B.th d], 0 ≤ x ∧ x < 100000000000000000000 := by
  intro x hx
  have h1 := th_in h d
  have h2 := ms_in h d
  have h3 := h.bk_in d
  have h4 := h.wish_in d
  simp only [List.mem_cons, List.not_mem_nil, or_false] at hx
  omega
theorem wd_len5 {B : Bak} (h : B.Ok) {d : Nat} (hd : d ≤ 10000000000000000000) : ∀ x ∈ [(d : Int), B.bk d, B.wish d - B.ms d, B.ms d, B.th d], (wd x).length ≤ 60 := fun x hx => by
  have := day_bounds h hd x hx
  exact wd_len this.1 (by omega)
theorem dayL_len {B : Bak} (h : B.Ok) {d : Nat} (hd : d ≤ 10000000000000000000) : (dayL B d).length ≤ 300 := by
  have k := wd_len5 h hd
  have k1 := k d (by simp)
  have k2 := k (B.bk d) (by simp)
  have k3 := k (B.wish d - B.ms d) (by simp)
  have k4 := k (B.ms d) (by simp)
  have k5 := k (B.th d) (by simp)
  unfold dayL
  rw [lnL_len]
  omega
theorem headL_len : headL.length = 82 := by decide +kernel
theorem nsum_le : ∀ {l : List Nat} {c : Nat}, (∀ x ∈ l, x ≤ c) → l.sum ≤ l.length * c
  | [], _, _ => Nat.zero_le _
  | x :: l, c, h => by
    have h1 := h x (by simp)
    have h2 := nsum_le (l := l) (c := c) fun y hy => h y (by simp [hy])
    rw [List.sum_cons, List.length_cons, Nat.succ_mul]
    omega
theorem repL_len {B : Bak} (f n : Nat) : (repL B f n).length = n + 1 := by simp [repL]
theorem repL_size {B : Bak} (h : B.Ok) {f n : Nat} (hf : f + n ≤ 10000000000000000000) : (((repL B f n).map mkS).map (·.length)).sum ≤ (n + 1) * 300 := by
  have := nsum_le (l := ((repL B f n).map mkS).map (·.length)) (c := 300) fun x hx => by
    rw [List.map_map, List.mem_map] at hx
    obtain ⟨l, hl, rfl⟩ := hx
    show (mkS l).length ≤ 300
    rw [mkS_len]
    rcases List.mem_cons.mp hl with rfl | hl
    · rw [headL_len]; decide
    · obtain ⟨i, hi, rfl⟩ := List.mem_map.mp hl
      exact dayL_len h (by have := List.mem_range.mp hi; omega)
  rw [List.length_map, List.length_map, repL_len] at this
  exact this
def spRep (K : PySem.W.Frag) : Sp := fun vs H Q _ => ∃ (a : Addr) (B : Bak) (f n : Nat), vs = [.ref a, .int (f : Nat), .int ((f + n : Nat) : Int)] ∧ BakM K H a B ∧ f + n ≤ 1000000000000000000 ∧ n ≤ 20 ∧ ∀ H', Same H H' → Q (.str (Txt.join (mkS [10]) ((repL B f (n + 1)).map mkS))) H'
theorem ok_report {P : Program} {w : World} {K : PySem.W.Frag} {mg : Str → Option Value} {base : Heap} (T : Tx K mg) : C8.Cal P w K mg base 8 "report" (spRep K) [] := by
  have G_validate_number := ok_validate_number (P := P) (w := w) (base := base) T
  have G_line_of := ok_line_of (P := P) (w := w) (base := base) T
  have G_Bakery_bakes := ok_Bakery_bakes (P := P) (w := w) (base := base) T
  have G_Bakery_sold := ok_Bakery_sold (P := P) (w := w) (base := base) T
  have G_Bakery_missed := ok_Bakery_missed (P := P) (w := w) (base := base) T
  have G_Bakery_thrown := ok_Bakery_thrown (P := P) (w := w) (base := base) T
  have G_number_word := ok_number_word (P := P) (w := w) (base := base) T
  refine cal_of (d := d_report) (x := "report") (fn_report T) rfl rfl (fg_report T) sc_report (fun _ _ _ _ _ _ us hl => match us, hl with | [_, _, _], _ => rfl) (fun vs H Q E h => ?_) (fun cdv A outer s H vs Q E hr h => ?_)
  · obtain ⟨a, B, f, n, rfl, hM, hf, hn, k⟩ := h
    rfl
  obtain ⟨a, B, f, n, rfl, hM, hf, hn, k⟩ := h
  refine ⟨_, (pss_cons (ps_expr (C8.pe_c G_validate_number hr (by decide) (by rfl) (pa_cons (pv 1) (pa_cons pe_int (pa_cons (C8.pe_gc rfl (gc_int (fi_MAX_DAY T))) pa_nil)))))
      (pss_cons (ps_expr (C8.pe_c G_validate_number hr (by decide) (by rfl) (pa_cons (pv 2) (pa_cons (pv 1) (pa_cons (pe_callB (cq_min2 rfl) (by rfl) (fn_min T) bb_min (pa_cons (C8.pe_gc rfl (gc_int (fi_MAX_DAY T))) (pa_cons (pe_op op_sub (pe_op op_add (pv 1) (C8.pe_gc rfl (gc_int (fi_MAX_LINES T)))) pe_int) pa_nil))) pa_nil)))))
      (pss_cons (ps_set (i := 3) sc_report.nd rfl (Or.inl rfl) (pe_lst (pa_cons (C8.pe_c G_line_of hr (by decide) (by rfl) (pa_cons (pe_tup (pa_cons pe_str (pa_cons pe_str (pa_cons pe_str (pa_cons pe_str (pa_cons pe_str pa_nil)))))) pa_nil)) pa_nil)))
      (pss_cons (ps_for PassesOwn.never rfl (pi_range2 (by rfl) (fn_range T) (pa_cons (pv 1) (pa_cons (pe_op op_add (pv 2) pe_int) pa_nil))) (pg_name (i := 4) sc_report.nd rfl (Or.inl rfl)) (pss_cons (ps_set (i := 5) sc_report.nd rfl (Or.inl rfl) (pe_ix ix_tup (pe_pr G_Bakery_bakes hr (by decide) (pv 0)) (pe_op op_mod (pe_callTy cq_int (by rfl) (fn_int T) bb_int (pa_cons (pv 4) pa_nil)) (pe_callB cq_len (by rfl) (fn_len T) bb_len (pa_cons (pe_pr G_Bakery_bakes hr (by decide) (pv 0)) pa_nil))) (fun _ _ => rfl)))
      (pss_cons (ps_set (i := 6) sc_report.nd rfl (Or.inl rfl) (pe_tup (pa_cons (pv 4) (pa_cons (pv 5) (pa_cons (C8.pe_mt G_Bakery_sold hr (by decide) (pv 0) (pa_cons (pv 4) pa_nil)) (pa_cons (C8.pe_mt G_Bakery_missed hr (by decide) (pv 0) (pa_cons (pv 4) pa_nil)) (pa_cons (C8.pe_mt G_Bakery_thrown hr (by decide) (pv 0) (pa_cons (pv 4) pa_nil)) pa_nil)))))))
      (pss_one (ps_expr (pe_bm PySem.F.plainAttrs_list PySem.F.slot_list_append PySem.F.type_list_append mt_append (pv 3) (pa_cons (C8.pe_c G_line_of hr (by decide) (by rfl) (pa_cons (pe_lc (own := [("number", 7)]) (by rfl) sc_report.nd (pi_tup (pv 6)) (blkOk_by (own := [("number", 7)]) (N := ["bakery", "first", "last", "lines", "day", "baked", "numbers", "number"]) (sc := defScope s_report) (by decide +kernel)) (fun _ _ _ _ _ => (pg_name (i := 7) sc_report.nd rfl (Or.inl rfl))) (fun _ _ _ _ _ => pts_nil) (fun _ _ _ _ _ => by exact (C8.pe_c G_number_word hr (by decide) (by rfl) (pa_cons (pv 7) pa_nil)))) pa_nil)) pa_nil)))))))
      (pss_one (ps_ret (pe_joinN pe_str (pv 3)))))))), ?_⟩
  try dsimp only [cxOf, Cx.nox, Cx.wish]
  repeat rw [st_cons]
  repeat rw [st_none]
  try rw [st_nn]
  have ok := hM.1
  walk_at "rd"
  refine use_num (by omega) (by omega) ?_
  walk_at "rd"
  refine use_num (by omega) (by omega) ?_
  walk_at "go"
  rename_i p0 H0 s0 n0 e0
  have hh : wordsAt K H0 p0 (codes "day") (codes "baked") (codes "sold") (codes "missed") (codes "thrown") := .inl (by simp only [codes, mkS_tl]; exact sqT_at e0)
  refine use_line hh (by decide +kernel) ?_
  walk_at "go"
  rename_i p1 H1 s1 n1 e1
  rw [show (((f + n : Nat) : Int) + 1 - (f : Nat)).toNat = n + 1 by omega]
  refine fR_range (n := n + 1) (fun i σ H' => (∃ p x y z w, σ = [some (.ref a), some (.int (f : Nat)), some (.int ((f + n : Nat) : Int)), some (.ref p), x, y, z, w] ∧ H p = none ∧ H' p = some (.lst (((repL B f i).map mkS).map V.str))) ∧ Same H H') ?_ ?_ ?_
  · refine ⟨⟨p1, _, _, _, _, rfl, none_of_same s0 n1, ?_⟩, sameT s0 s1⟩
    rw [e1]
    rfl
  · rintro i σ H' hi ⟨⟨p, x, y, z, w, rfl, hp, ep⟩, sm⟩
    have hM1 := hM.mono sm
    have n0 := ok.n0
    walk_at "rd"
    obtain ⟨okk, dx, tb, tw, te, tr, tp, r, ps, hB, hq, hb, hw, he, hp', hl, hps⟩ := id hM1
    refine ⟨a, dx, _, rfl, hB, use_bks hM1.c fun tb1 hb1 => ?_⟩
    walk_at "rd"
    refine ⟨a, dx, _, rfl, hB, use_bks hM1.c fun tb2 hb2 => ?_⟩
    walk_at "rd"
    refine r_lenT hb2 ?_
    rw [List.length_map, show B.bakes.length = B.n from rfl]
    refine r_I (by omega) ?_
    have f0 : (0 : Int) ≤ (f : Nat) + (i : Nat) := by omega
    refine r_ixT hb1 (ok.ix _).2.symm (by rw [List.getElem?_map, ok.bk_at f0]; rfl) ?_
    walk_at "rd"
    refine mBk hM1.c (by decide) ?_
    walk_at "rd"
    refine use_sld hM1 f0 (by omega) fun H2 s2 => ?_
    have hM2 := hM1.mono s2
    walk_at "rd"
    refine mBk hM2.c (by decide) ?_
    walk_at "rd"
    refine use_msd hM2 f0 (by omega) fun H3 s3 => ?_
    have hM3 := hM2.mono s3
    walk_at "rd"
    refine mBk hM3.c (by decide) ?_
    walk_at "rd"
    refine use_thn hM3 f0 (by omega) fun H4 s4 => ?_
    walk_at "go"
    rename_i p5 H5 s5 n5 e5
    have et : ((f : Nat) : Int) + (i : Nat) = ((f + i : Nat) : Int) := by omega
    have bounds : ∀ x ∈ [((f : Nat) : Int) + (i : Nat), B.bk ((f : Nat) + (i : Nat)), B.wish ((f : Nat) + (i : Nat)) - B.ms (((f : Nat) : Int) + (i : Nat)).toNat, B.ms (((f : Nat) : Int) + (i : Nat)).toNat, B.th (((f : Nat) : Int) + (i : Nat)).toNat], 0 ≤ x ∧ x < 100000000000000000000 := by
      have e : (((f : Nat) : Int) + (i : Nat)).toNat = f + i := by omega
      rw [e, et]
      exact day_bounds ok (by omega)
    have lens : ∀ x ∈ [((f : Nat) : Int) + (i : Nat), B.bk ((f : Nat) + (i : Nat)), B.wish ((f : Nat) + (i : Nat)) - B.ms (((f : Nat) : Int) + (i : Nat)).toNat, B.ms (((f : Nat) : Int) + (i : Nat)).toNat, B.th (((f : Nat) : Int) + (i : Nat)).toNat], (wd x).length ≤ 1000 := fun x hx => by
      have b := bounds x hx
      exact Nat.le_trans (wd_len b.1 (by omega)) (by decide)
    refine lcW_tup (xs := [((f : Nat) : Int) + (i : Nat), B.bk ((f : Nat) + (i : Nat)), B.wish ((f : Nat) + (i : Nat)) - B.ms (((f : Nat) : Int) + (i : Nat)).toNat, B.ms (((f : Nat) : Int) + (i : Nat)).toNat, B.th (((f : Nat) : Int) + (i : Nat)).toNat]) (fun z => mkS (wd z)) (sqT_at e5) (by show 5 ≤ 100000; omega) (fun z H' Z hz s6 q => ?_) fun D H6 hD s6 e6 => ?_
    · walk_at "rd"
      have b := bounds z hz
      refine use_word b.1 (by omega) (q _ sameR)
    walk_at "go"
    refine use_line (.inr (sqL_at e6)) ⟨lens _ (by simp), lens _ (by simp), lens _ (by simp), lens _ (by simp), lens _ (by simp)⟩ ?_
    walk_at "go"
    have ep6 := s6 _ _ (s5 _ _ (s4 _ _ (s3 _ _ (s2 _ _ ep))))
    refine r_append ep6 (by simp [repL]; omega) ?_
    have s06 : Same H H6 := sameT sm (sameT s2 (sameT s3 (sameT s4 (sameT s5 s6))))
    refine ⟨⟨p, _, _, _, _, rfl, hp, ?_⟩, same_mut s06 hp⟩
    rw [upd_same]
    have er : repL B f (i + 1) = repL B f i ++ [dayL B (f + i)] := by
      unfold repL
      rw [List.range_succ, List.map_append]
      rfl
    rw [er, List.map_append, List.map_append]
    rfl
  · rintro σ H' ⟨⟨p, x, y, z, w, rfl, hp, ep⟩, sm⟩
    walk_at "go"
    refine r_m1 ?_
    walk_at "go"
    refine r_m1R ?_
    walk_at "go"
    refine r_joinN (sqL_at ep) ?_ ?_
    · have q := repL_size ok (f := f) (n := n + 1) (by omega)
      have l1 : (Str.ofString "\n").length = 1 := by decide +kernel
      rw [List.length_map, repL_len, l1]
      omega
    · exact k _ sm

end G57
end
section
set_option maxRecDepth 100000
set_option maxHeartbeats 4000000
namespace G57
open PySem PySem.Spec PyProof.Rows L2
/-! the walk's small steps: "rd" reads on as far as it can -/
local macro_rules | `(tactic| walk_at "fact") => `(tactic| fail)
local macro_rules | `(tactic| walk_at "rd1") => `(tactic| with_reducible first
  | (refine v_id ?_; first | refine r_var_0 ?_ | refine r_var_1 ?_ | refine r_var_2 ?_ | refine r_var_3 ?_ | refine r_var_4 ?_ | refine r_var_5 ?_ | refine r_var_6 ?_ | refine r_var_7 ?_ | refine r_var_8 ?_ | refine r_var_9 ?_ | refine r_var_10 ?_ | refine r_var_11 ?_ | refine r_var_12 ?_ | refine r_var_13 ?_ | refine r_var_14 ?_ | refine r_var_15 ?_ | refine r_var_16 ?_ | refine r_var_17 ?_ | refine r_var_18 ?_ | refine r_var_19 ?_ | refine r_var_20 ?_ | refine r_var_21 ?_ | refine r_var_22 ?_ | refine r_var_23 ?_ | refine r_var_24 ?_ | refine r_var_25 ?_ | refine r_var_26 ?_ | refine r_var_27 ?_ | refine r_var rfl ?_)
  | (refine s_id ?_; first | refine r_set_0 ?_ | refine r_set_1 ?_ | refine r_set_2 ?_ | refine r_set_3 ?_ | refine r_set_4 ?_ | refine r_set_5 ?_ | refine r_set_6 ?_ | refine r_set_7 ?_ | refine r_set_8 ?_ | refine r_set_9 ?_ | refine r_set_10 ?_ | refine r_set_11 ?_ | refine r_set_12 ?_ | refine r_set_13 ?_ | refine r_set_14 ?_ | refine r_set_15 ?_ | refine r_set_16 ?_ | refine r_set_17 ?_ | refine r_set_18 ?_ | refine r_set_19 ?_ | refine r_set_20 ?_ | refine r_set_21 ?_ | refine r_set_22 ?_ | refine r_set_23 ?_ | refine r_set_24 ?_ | refine r_set_25 ?_ | refine r_set_26 ?_ | refine r_set_27 ?_ | refine r_setU ?_)
  | refine r_c ?_
  | refine r_op ?_
  | refine r_I0 ?_
  | refine r_seq ?_
  | refine r_asg ?_
  | refine r_fld ?_
  | refine r_nil ?_
  | refine r_cons ?_
  | refine r_cb ?_
  | refine r_max ?_
  | refine r_min ?_
  | refine r_ret ?_
  | refine r_met ?_
  | refine r_call ?_
  | refine r_B ?_
  | refine r_test ?_
  | refine r_b' ?_
  | refine r_ifS ?_
  | refine r_if ?_
  | refine r_par ?_
  | refine r_par2 ?_
  | refine r_drop ?_
  | refine r_next ?_
  | refine r_make ?_
  | refine r_sfld ?_
  | refine r_int1 ?_
  | refine r_intb ?_
  | refine r_and ?_
  | refine r_or ?_
  | refine r_not ?_
  | refine r_chain ?_
  | refine r_isN ?_
  | refine r_notN ?_
  | refine r_un ?_
  | refine r_U ?_
  | refine r_par3 ?_
  | refine r_par33 ?_
  | refine r_tup ?_
  | refine r_lst ?_
  | refine r_prop ?_
  | refine r_bm ?_
  | refine r_bm0 ?_
  | refine r_andV ?_
  | refine r_orV ?_
  | refine r_notV ?_
  | refine r_asgG ?_
  | refine r_gname ?_
  | refine r_gcons ?_
  | refine r_gnil ?_
  | refine r_rng1 ?_
  | refine r_rng2 ?_
  | refine r_for ?_
  | refine r_lc1 ?_
  | refine r_lc2 ?_
  | refine r_lc3 ?_
  | refine r_lc ?_
  | refine r_while ?_
  | refine r_rev ?_
  | refine r_sl ?_
  | refine r_augS ?_
  | refine r_iL ?_
  | refine r_iT ?_
  | refine r_iE ?_
  | refine r_ipI ?_
  | refine r_aug rfl ?_
  | refine r_cval ?_
  | refine r_turnN ?_
  | refine iT ?_
  | refine iNT ?_
  | refine iNF ?_
  | refine iOF ?_
  | refine iF ?_
  | refine r_part ?_
  | refine r_pi ?_
  | refine r_gsub ?_
  | refine r_noPart ?_)
local macro_rules | `(tactic| walk_at "rd") => `(tactic| (repeat (first | walk_at "rd1" | walk_at "fact")))
local macro_rules | `(tactic| walk_at "plen") => `(tactic| (repeat (first | decide | refine putF_lt ?_)))
local macro_rules | `(tactic| walk_at "rs") => `(tactic| (repeat ((fail_if_success (with_reducible refine r_stop ?_)); (first | walk_at "rd1" | walk_at "fact"))))
/-! finding a fact in the present heap by the way back; each rule is applied by its conclusion before its premises are sought -/
local macro_rules | `(tactic| walk_at "atx") => `(tactic| fail)
local macro_rules | `(tactic| walk_at "c_h") => `(tactic| first
  | with_reducible assumption
  | ((with_reducible apply hat_s); (with_reducible assumption); walk_at "c_h"))
local macro_rules | `(tactic| walk_at "c_n") => `(tactic| first
  | with_reducible assumption
  | ((with_reducible apply hat_ne); (with_reducible assumption); walk_at "c_h"))
local macro_rules | `(tactic| walk_at "c_o") => `(tactic| first
  | with_reducible assumption
  | with_reducible exact upd_same
  | ((with_reducible apply at_s); (with_reducible assumption); walk_at "c_o")
  | ((with_reducible apply atd_tup); (with_reducible assumption); walk_at "c_h"; walk_at "c_o")
  | ((with_reducible apply atd_ins); (with_reducible assumption); walk_at "c_h"; walk_at "c_o")
  | ((with_reducible apply atd_lst); (with_reducible assumption); walk_at "c_n"; walk_at "c_o")
  | ((with_reducible apply atx_tup); (with_reducible assumption); walk_at "c_o"; walk_at "c_o")
  | ((with_reducible apply atx_ins); (with_reducible assumption); walk_at "c_o"; walk_at "c_o")
  | ((with_reducible apply atx_ne); (with_reducible assumption); (with_reducible assumption); walk_at "c_o"))
local macro_rules | `(tactic| walk_at "c_q") => `(tactic| first
  | with_reducible assumption
  | ((with_reducible apply sqL_s); (with_reducible assumption); walk_at "c_q"))
local macro_rules | `(tactic| walk_at "c_t") => `(tactic| first
  | with_reducible assumption
  | ((with_reducible apply sqT_s); (with_reducible assumption); walk_at "c_t")
  | ((with_reducible apply sqT_d); (with_reducible assumption); walk_at "c_h"; walk_at "c_t")
  | ((with_reducible apply sqT_x); (with_reducible assumption); walk_at "c_o"; walk_at "c_t"))
local macro_rules | `(tactic| walk_at "c_p") => `(tactic| first
  | with_reducible assumption
  | ((with_reducible apply pairs_s); (with_reducible assumption); walk_at "c_p"))
local macro_rules | `(tactic| walk_at "at") => `(tactic| first
  | with_reducible assumption
  | with_reducible exact upd_same
  | walk_at "atx"
  | ((with_reducible apply sqL_at); walk_at "c_o")
  | ((with_reducible apply sqL_s); (with_reducible assumption); walk_at "c_q")
  | ((with_reducible apply sqT_at); walk_at "c_o")
  | ((with_reducible apply sqT_id); walk_at "c_t")
  | ((with_reducible apply hat_id); walk_at "c_h")
  | ((with_reducible apply pairs_id); walk_at "c_p")
  | ((with_reducible apply ne_id); walk_at "c_n")
  | ((with_reducible apply at_id); walk_at "c_o"))
/-! a length, an inequality -/
local macro_rules | `(tactic| walk_at "le") => `(tactic| first | exact Nat.le_of_ble_eq_true rfl | omega | (simp; done) | (simp; omega))
local macro_rules | `(tactic| walk_at "ar") => `(tactic| first | omega | exact ⟨by omega, by omega⟩ | exact .inl ⟨by omega, by omega⟩ | exact .inr ⟨by omega, by omega⟩ | exact .inr (by omega) | exact .inl (by omega) | exact ⟨by omega, by omega, by omega⟩ | decide)
/-! calls of the text's own defs, with letters for what they leave -/
local macro_rules | `(tactic| walk_at "use") => `(tactic| fail)
local macro_rules | `(tactic| walk_at "go1") => `(tactic| first
  | walk_at "rd1"
  | walk_at "fact"
  | walk_at "use"
  | with_reducible refine r_p6 ?_
  | with_reducible refine r_p8 ?_
  | with_reducible refine r_p9 ?_
  | with_reducible refine r_p10 ?_
  | with_reducible refine r_p12 ?_
  | with_reducible refine r_p14 ?_
  | with_reducible refine r_p15 ?_
  | with_reducible refine r_p17 ?_
  | with_reducible refine r_p18 ?_
  | ((with_reducible apply r_I); walk_at "ar")
  | ((with_reducible apply a_neNil); walk_at "at"; intro _ _)
  | ((with_reducible apply a_eqNil); walk_at "at"; intro _ _)
  | ((with_reducible apply a_nwT); walk_at "le"; intro _ _ _ _ _)
  | ((with_reducible apply a_nwL); walk_at "le"; intro _ _ _ _ _)
  | ((with_reducible apply r_ixL (j := 0)); walk_at "at"; rfl; rfl)
  | ((with_reducible apply r_ixL (j := 1)); walk_at "at"; rfl; rfl)
  | ((with_reducible apply r_ixL (j := 2)); walk_at "at"; rfl; rfl)
  | ((with_reducible apply r_ixL (j := 3)); walk_at "at"; rfl; rfl)
  | ((with_reducible apply r_ixT (j := 0)); walk_at "at"; rfl; rfl)
  | ((with_reducible apply r_ixT (j := 1)); walk_at "at"; rfl; rfl)
  | ((with_reducible apply r_ixT (j := 2)); walk_at "at"; rfl; rfl)
  | ((with_reducible apply a_pick2); walk_at "at"; omega; omega; intro _ _)
  | ((with_reducible apply a_pick3); walk_at "at"; omega; omega; intro _ _)
  | ((with_reducible apply a_pick4); walk_at "at"; omega; omega; intro _ _)
  | ((with_reducible apply r_gtup); walk_at "at"; rfl)
  | ((with_reducible apply a_lenLI); walk_at "at")
  | ((with_reducible apply r_lenL); walk_at "at")
  | ((with_reducible apply r_lenT); walk_at "at")
  | ((with_reducible apply r_tyL); walk_at "at")
  | ((with_reducible apply a_cat); walk_at "at"; walk_at "at"; walk_at "le"; intro _ _ _ _ _)
  | ((with_reducible apply a_listL); walk_at "at"; intro _ _ _ _ _)
  | ((with_reducible apply a_tupL); walk_at "at"; intro _ _ _ _ _)
  | ((with_reducible apply a_slL); walk_at "at"; intro _ _ _ _ _)
  | ((with_reducible apply a_revL); walk_at "at"; intro _ _ _ _ _)
  | ((with_reducible apply r_sumT); walk_at "at")
  | ((with_reducible apply r_sumL); walk_at "at")
  | ((with_reducible refine ⟨_, rfl, ?_, ?_, ?_⟩); omega; omega)
  | ((with_reducible refine ⟨_, _, rfl, ⟨?_, ?_, ?_, ?_⟩, ?_⟩); omega; omega; omega; omega)
  | with_reducible refine ⟨_, rfl, ⟨_, by walk_at "at"⟩, ?_⟩)
local macro_rules | `(tactic| walk_at "go") => `(tactic| (repeat (walk_at "go1")))
local macro_rules | `(tactic| walk_at "sames") => `(tactic| first | exact sameR | assumption | ((with_reducible apply sameB); assumption; walk_at "sames"))
local macro_rules | `(tactic| walk_at "sameds") => `(tactic| first | assumption | ((with_reducible apply sameD_of); walk_at "sames"; done) | ((with_reducible apply sameDB); assumption; walk_at "sameds") | ((with_reducible apply sameDS); assumption; walk_at "sameds"))
local macro_rules | `(tactic| walk_at "gs") => `(tactic| (repeat ((fail_if_success (with_reducible refine r_stop ?_)); (walk_at "go1"))))
open TL
local macro_rules | `(tactic| walk_at "fact") => `(tactic| first
  | ((with_reducible apply r_lenS); (with_reducible assumption))
  | ((with_reducible apply r_slS); (with_reducible assumption))
  | with_reducible refine r_m1 ?_
  | with_reducible refine r_m1R ?_)
def Rows5 (H : Hp) (vs : List V) (rs : List Row5) : Prop := vs.length = rs.length ∧ ∀ (i : Nat) v, vs[i]? = some v → ∃ a r, v = .ref a ∧ rs[i]? = some r ∧ H a = some (.tup (rowV r))
theorem Rows5.mono {H H' : Hp} {vs : List V} {rs : List Row5} (s : Same H H') (h : Rows5 H vs rs) : Rows5 H' vs rs := ⟨h.1, fun i v e => let ⟨a, r, e1, e2, e3⟩ := h.2 i v e; ⟨a, r, e1, e2, s _ _ e3⟩⟩
theorem Rows5.nil {H : Hp} : Rows5 H [] [] := ⟨rfl, fun i v e => by simp at e⟩
theorem Rows5.snoc {H : Hp} {vs : List V} {rs : List Row5} {a : Addr} {r : Row5} (h : Rows5 H vs rs) (e : H a = some (.tup (rowV r))) : Rows5 H (vs ++ [.ref a]) (rs ++ [r]) := by
  refine ⟨by simp [h.1], fun i v hv => ?_⟩
  by_cases c : i < vs.length
  · rw [List.getElem?_append_left c] at hv
    obtain ⟨b, q, e1, e2, e3⟩ := h.2 i v hv
    exact ⟨b, q, e1, by rw [List.getElem?_append_left (by rw [← h.1]; exact c)]; exact e2, e3⟩
  · have l := (List.getElem?_eq_some_iff.mp hv).1
    simp only [List.length_append, List.length_singleton] at l
    have : i = vs.length := by omega
    subst this
    rw [List.getElem?_append_right (Nat.le_refl _), Nat.sub_self] at hv
    cases hv
    exact ⟨a, r, rfl, by rw [h.1, List.getElem?_append_right (Nat.le_refl _), Nat.sub_self]; rfl, e⟩
theorem Rows5.upd {H : Hp} {vs us : List V} {rs : List Row5} {p : Addr} {zs : List V} (h : Rows5 H vs rs) (e : H p = some (.lst us)) : Rows5 (upd H p (.lst zs)) vs rs := ⟨h.1, fun i v hv => by
  obtain ⟨a, r, e1, e2, e3⟩ := h.2 i v hv
  refine ⟨a, r, e1, e2, ?_⟩
  rw [upd_ne]
  · exact e3
  · intro z
    subst z
    rw [e] at e3
    cases e3⟩
theorem tup_upd {H : Hp} {q p : Addr} {xs us zs : List V} (e : H q = some (.tup xs)) (h : H p = some (.lst us)) : upd H p (.lst zs) q = some (.tup xs) := by
  rw [upd_ne]
  · exact e
  · intro z
    subst z
    rw [h] at e
    cases e
theorem lst_upd {H : Hp} {q p : Addr} {xs zs : List V} (n : q ≠ p) (e : H q = some (.lst xs)) : upd H p (.lst zs) q = some (.lst xs) := by
  rw [upd_ne n]
  exact e
theorem isNon_noV (o : Option Nat) : isNon (noV o) = o.isNone := by cases o <;> rfl
theorem any_noV (xs : List (Option Nat)) : (xs.map noV).any isNon = xs.any Option.isNone := by
  rw [List.any_map]
  congr 1
  funext o
  exact isNon_noV o
theorem noV_ni (xs : List (Option Nat)) : ∀ z ∈ xs.map noV, z = .non ∨ ∃ i, z = .int i := fun z hz => by
  obtain ⟨o, _, rfl⟩ := List.mem_map.mp hz
  cases o with
  | none => exact .inl rfl
  | some n => exact .inr ⟨_, rfl⟩
theorem cut_mid (x : List Nat) {i : Nat} (hi : i < 5) : cutS (mkS x) (some ((ofs5 i : Nat) : Int)) (some ((ofs5 (i + 1) : Nat) : Int)) = mkS ((x.drop (ofs5 i)).take (wdt5 i)) := by
  have e := ofs_next hi
  rw [cutS_mid _ _ _ (by omega), show ofs5 (i + 1) - ofs5 i = wdt5 i by omega]
theorem r_noneIn {K : PySem.W.Frag} {H : Hp} {Q : VK} {p : Addr} {xs : List V} (h : SqL K H p xs) (f : ∀ z ∈ xs, z = .non ∨ ∃ i, z = .int i) (q : Q (.bl (xs.any isNon)) H) : rNoneInF K .non (.ref p) H Q := ⟨p, xs, rfl, rfl, h, f, q⟩
def spRead (K : PySem.W.Frag) : Sp := fun vs H Q _ => ∃ l : List Nat, vs = [.str (mkS l)] ∧ l.length ≤ 16000 ∧ (∀ rs, rdT headL l = .ok rs → ∀ p us H', Same H H' → H' p = some (.lst us) → Rows5 H' us rs → Q (.ref p) H') ∧ ∀ e, rdT headL l = .error e → ∀ p H', Same H H' → H' p = some (.tup [.str "InvalidReport", .int (e : Nat)]) → Q (.ref p) H'
theorem ok_law_read {P : Program} {w : World} {K : PySem.W.Frag} {mg : Str → Option Value} {base : Heap} (T : Tx K mg) : C8.Cal P w K mg base 3 "_law_read" (spRead K) [] := by
  have G_law_line := ok_law_line (P := P) (w := w) (base := base) T
  have G_law_number := ok_law_number (P := P) (w := w) (base := base) T
  have G_law_grouped := ok_law_grouped (P := P) (w := w) (base := base) T
  refine cal_of (d := d_law_read) (x := "_law_read") (fn_law_read T) rfl rfl (fg_law_read T) sc_law_read (fun _ _ _ _ _ _ us hl => match us, hl with | [_], _ => rfl) (fun vs H Q E h => ?_) (fun cdv A outer s H vs Q E hr h => ?_)
  · obtain ⟨l, rfl, hl, k1, k2⟩ := h
    rfl
  obtain ⟨l, rfl, hl, k1, k2⟩ := h
  refine ⟨_, (pss_cons (ps_par (i := 1) (j := 2) (by rfl) sc_law_read.nd rfl rfl (by decide) rfl rfl (pa_cons (pe_splitN (pv 0) pe_str) (pa_cons (pe_lst pa_nil) pa_nil)) (by rfl))
      (pss_cons (ps_if (pt_cmpR op_ne (pe_ix ix_list (pv 1) pe_int (fun _ _ => rfl)) (C8.pe_c G_law_line hr (by decide) (by rfl) (pa_cons (pe_lst (pa_cons pe_str (pa_cons pe_str (pa_cons pe_str (pa_cons pe_str (pa_cons pe_str pa_nil)))))) pa_nil)) (nomark _)) (pss_one (ps_ret (pe_tup (pa_cons pe_str (pa_cons pe_int pa_nil))))) pss_nil)
      (pss_cons (ps_for PassesOwn.never rfl (pi_range2 (by rfl) (fn_range T) (pa_cons pe_int (pa_cons (pe_callB cq_len (by rfl) (fn_len T) bb_len (pa_cons (pv 1) pa_nil)) pa_nil))) (pg_name (i := 3) sc_law_read.nd rfl (Or.inl rfl)) (pss_cons (ps_par (i := 4) (j := 5) (by rfl) sc_law_read.nd rfl rfl (by decide) rfl rfl (pa_cons (pe_ix ix_list (pv 1) (pv 3) (fun _ _ => rfl)) (pa_cons (pe_lst pa_nil) pa_nil)) (by rfl))
      (pss_cons (ps_for PassesOwn.never rfl (pi_tup (pe_tup (pa_cons (pe_tup (pa_cons pe_int (pa_cons pe_int pa_nil))) (pa_cons (pe_tup (pa_cons pe_int (pa_cons pe_int pa_nil))) (pa_cons (pe_tup (pa_cons pe_int (pa_cons pe_int pa_nil))) (pa_cons (pe_tup (pa_cons pe_int (pa_cons pe_int pa_nil))) (pa_cons (pe_tup (pa_cons pe_int (pa_cons pe_int pa_nil))) pa_nil))))))) (pg_tup (n := 2) (by rfl) (pgs_cons (pg_name (i := 6) sc_law_read.nd rfl (Or.inl rfl)) (pgs_cons (pg_name (i := 7) sc_law_read.nd rfl (Or.inl rfl)) pgs_nil))) (pss_one (ps_expr (pe_bm PySem.F.plainAttrs_list PySem.F.slot_list_append PySem.F.type_list_append mt_append (pv 5) (pa_cons (C8.pe_c G_law_number hr (by decide) (by rfl) (pa_cons (pe_lstripN (pe_slice sl_str (pv 4) (po_some (pv 6)) (po_some (pv 7))) pe_str) pa_nil)) pa_nil)))))
      (pss_cons (ps_if (PW.pt (pw_or (pt_cmpR op_noneInF pe_non (pv 5) (by rfl)) (pw_or1 (pt_cmpR op_ne (C8.pe_c G_law_line hr (by decide) (by rfl) (pa_cons (pe_lc (own := [("_law_number_here", 8)]) (by rfl) sc_law_read.nd (pi_list (pv 5)) (blkOk_by (own := [("_law_number_here", 8)]) (N := ["_law_text", "_law_lines", "_law_rows", "_law_row", "_law_line_here", "_law_numbers", "_law_begin", "_law_end", "_law_number_here"]) (sc := defScope s_law_read) (by decide +kernel)) (fun _ _ _ _ _ => (pg_name (i := 8) sc_law_read.nd rfl (Or.inl rfl))) (fun _ _ _ _ _ => pts_nil) (fun _ _ _ _ _ => by exact (C8.pe_c G_law_grouped hr (by decide) (by rfl) (pa_cons (pv 8) pa_nil)))) pa_nil)) (pv 4) (nomark _))))) (pss_one (ps_ret (pe_tup (pa_cons pe_str (pa_cons (pv 3) pa_nil))))) pss_nil)
      (pss_one (ps_expr (pe_bm PySem.F.plainAttrs_list PySem.F.slot_list_append PySem.F.type_list_append mt_append (pv 2) (pa_cons (pe_callTy cq_tupL (by rfl) (fn_tuple T) bb_tuple (pa_cons (pv 5) pa_nil)) pa_nil))))))))
      (pss_one (ps_ret (pv 2)))))), ?_⟩
  try dsimp only [cxOf, Cx.nox, Cx.wish]
  repeat rw [st_cons]
  repeat rw [st_none]
  try rw [st_nn]
  have lim := sizeBig
  obtain ⟨h, ls, el⟩ := lns_ne l
  have many := lns_many l
  have eR : rdT headL l = if h = headL then rdL ls ls.length else .error 0 := by unfold rdT; rw [el]
  walk_at "go"
  refine r_splitN (by decide +kernel) (by rw [mkS_len]; omega) fun p0 n0 => ?_
  rw [split_lns, el]
  have s0 := same_new n0 (o := .lst ((((h :: ls).map mkS)).map V.str))
  have e0 : upd H p0 (.lst ((((h :: ls).map mkS)).map V.str)) p0 = some (.lst ((((h :: ls).map mkS)).map V.str)) := upd_same
  generalize upd H p0 (.lst ((((h :: ls).map mkS)).map V.str)) = H0 at s0 e0 ⊢
  walk_at "go"
  rename_i pr H1 s1 n1 e1 pw H2 s2 n2 e2
  have hh : SqL K H2 pw [V.str (mkS (codes "day")), .str (mkS (codes "baked")), .str (mkS (codes "sold")), .str (mkS (codes "missed")), .str (mkS (codes "thrown"))] := by simp only [codes, mkS_tl]; exact sqL_at e2
  refine use_lline hh (by decide +kernel) fun H3 s3 => ?_
  have s03 : Same H H3 := sameT s0 (sameT s1 (sameT s2 s3))
  refine r_neS (by rfl) ?_
  by_cases c : h = headL
  · rw [if_pos c] at eR
    rw [eR] at k1 k2
    walk_at "rd"
    refine iN' (congrArg (fun z => V.str (mkS z)) c) ?_
    have ep0 : H3 p0 = some (.lst (((h :: ls).map mkS).map V.str)) := s3 _ _ (s2 _ _ (s1 _ _ e0))
    have epr : H3 pr = some (.lst []) := s3 _ _ (s2 _ _ e1)
    have nr : H pr = none := none_of_same s0 n1
    have ne : p0 ≠ pr := fun z => by
      rw [z, n1] at e0
      cases e0
    clear e0 e1 e2 hh s1 s2 s3 n1 n2 s0
    walk_at "go"
    refine ⟨_, _, rfl, ⟨by decide, by decide, by rw [List.length_map, List.length_map, List.length_cons]; have := many; rw [el, List.length_cons] at this; omega, by rw [List.length_map, List.length_map, List.length_cons]; have := many; rw [el, List.length_cons] at this; omega⟩, ?_⟩
    rw [show (((List.map V.str (List.map mkS (h :: ls))).length : Nat) - 1 : Int).toNat = ls.length by simp]
    refine fR_range (n := ls.length) (fun i σ H' => ∃ (rs : List Row5) (us : List V) (x3 x4 x5 x6 x7 x8 : Option V), σ = [some (.str (mkS l)), some (.ref p0), some (.ref pr), x3, x4, x5, x6, x7, x8] ∧ rdL ls i = .ok rs ∧ H' pr = some (.lst us) ∧ Rows5 H' us rs ∧ H' p0 = some (.lst (((h :: ls).map mkS).map V.str)) ∧ Same H H')
      ⟨[], [], none, none, none, none, none, none, rfl, rfl, epr, Rows5.nil, ep0, s03⟩ ?_ ?_
    · clear ep0 epr s03 H3 H0 H1 H2
      rintro i σ H3 hi ⟨rs, us, x3, x4, x5, x6, x7, x8, rfl, er, epr, hrs, ep0, s03⟩
      have en := rdL_next er
      have lrs := rdL_len er
      have hx : ls[i]? = some (ls.getD i []) := by rw [List.getD_eq_getElem?_getD, List.getElem?_eq_getElem hi]; rfl
      obtain ⟨x, ex⟩ : ∃ x, x = ls.getD i [] := ⟨_, rfl⟩
      rw [← ex] at en hx
      have hxl : x.length ≤ 16000 := Nat.le_trans (lns_le l (by rw [el]; exact List.mem_cons_of_mem _ (List.mem_of_getElem? hx))) hl
      walk_at "rd"
      refine r_ixL (sqL_at ep0) (j := i + 1) (by omega) (by rw [List.getElem?_map, List.getElem?_map, List.getElem?_cons_succ, hx]; rfl) ?_
      walk_at "go"
      rename_i pn H4 s4 n4 e4 q1 H5 s5 n5 e5 q2 H6 s6 n6 e6 q3 H7 s7 n7 e7 q4 H8 s8 n8 e8 q5 H9 s9 n9 e9 qt Ha sa na ea
      have e1a := sa _ _ (s9 _ _ (s8 _ _ (s7 _ _ (s6 _ _ e5))))
      have e2a := sa _ _ (s9 _ _ (s8 _ _ (s7 _ _ e6)))
      have e3a := sa _ _ (s9 _ _ (s8 _ _ e7))
      have e4a := sa _ _ (s9 _ _ e8)
      have e5a := sa _ _ e9
      have ena := sa _ _ (s9 _ _ (s8 _ _ (s7 _ _ (s6 _ _ (s5 _ _ e4)))))
      have s3a : Same H3 Ha := sameT s4 (sameT s5 (sameT s6 (sameT s7 (sameT s8 (sameT s9 sa)))))
      clear s5 n5 e5 s6 n6 e6 s7 n7 e7 s8 n8 e8 s9 n9 e9 sa na s4 e4
      refine fR_tup (xs := [.ref q1, .ref q2, .ref q3, .ref q4, .ref q5]) (fun j σ H' => (∃ x6 x7, σ = [some (.str (mkS l)), some (.ref p0), some (.ref pr), some (.int (1 + (i : Nat))), some (.str (mkS x)), some (.ref pn), x6, x7, x8]) ∧ Same H3 H' ∧ H' pn = some (.lst ((colsOf lnOf x j).map noV)) ∧
        H' q1 = some (.tup [.int 0, .int 26]) ∧ H' q2 = some (.tup [.int 26, .int 40]) ∧ H' q3 = some (.tup [.int 40, .int 54]) ∧ H' q4 = some (.tup [.int 54, .int 68]) ∧ H' q5 = some (.tup [.int 68, .int 82]) ∧ H' qt = some (.tup [.ref q1, .ref q2, .ref q3, .ref q4, .ref q5]))
        ⟨⟨_, _, rfl⟩, s3a, ena, e1a, e2a, e3a, e4a, e5a, ea⟩ (fun j σ H' _ w => sqT_at w.2.2.2.2.2.2.2.2) ?_ ?_
      · clear e1a e2a e3a e4a e5a ea ena s3a
        rintro j v σ Hb hv ⟨⟨x6, x7, rfl⟩, s3b, enb, e1, e2, e3, e4, e5, et⟩
        have hj : j < 5 := (List.getElem?_eq_some_iff.mp hv).1
        obtain ⟨q, rfl, eq⟩ : ∃ q, v = .ref q ∧ Hb q = some (.tup [.int (ofs5 j : Nat), .int (ofs5 (j + 1) : Nat)]) := by
          match j, hj with
          | 0, _ => cases hv; exact ⟨_, rfl, e1⟩
          | 1, _ => cases hv; exact ⟨_, rfl, e2⟩
          | 2, _ => cases hv; exact ⟨_, rfl, e3⟩
          | 3, _ => cases hv; exact ⟨_, rfl, e4⟩
          | 4, _ => cases hv; exact ⟨_, rfl, e5⟩
        refine r_turnG ?_
        refine r_gtup (sqT_at eq) rfl ?_
        walk_at "go"
        refine r_slS (by rw [mkS_len]; exact Nat.le_trans hxl (Nat.le_trans (by decide) lim)) ?_
        rw [cut_mid x hj]
        walk_at "rd"
        refine r_lstripN (by rw [mkS_len, List.length_take]; exact Nat.le_trans (Nat.min_le_left _ _) (Nat.le_trans (wdt_le j) (Nat.le_trans (by decide) lim))) ?_
        rw [lstrip_stp]
        walk_at "rd"
        refine use_lno (Nat.le_trans (cutW_len x (ofs5 j) (wdt5 j)) (Nat.le_trans (wdt_le j) (by decide))) fun Hc sc => ?_
        walk_at "rd"
        refine r_append (sc _ _ enb) (by rw [List.length_map, cols_len]; omega) ?_
        refine ⟨⟨_, _, rfl⟩, same_mut (sameT s3b sc) n4, ?_, ?_, ?_, ?_, ?_, ?_, ?_⟩
        · rw [upd_same, cols_next, List.map_append]; rfl
        all_goals exact tup_upd (sc _ _ (by assumption)) (sc _ _ enb)
      · clear e1a e2a e3a e4a e5a ea ena s3a
        rintro σ Hb ⟨⟨x6, x7, rfl⟩, s3b, enb, e1, e2, e3, e4, e5, et⟩
        clear e1 e2 e3 e4 e5 et
        have enb' : Hb pn = some (.lst ((colsOf lnOf x 5).map noV)) := enb
        clear enb
        have s0b := sameT s03 s3b
        have np0 : pr ≠ p0 := fun z => ne z.symm
        walk_at "go"
        refine r_noneIn (sqL_at enb') (noV_ni _) ?_
        rw [any_noV]
        cases hn : (colsOf lnOf x 5).any Option.isNone with
        | true =>
          have eg := row_gone hn
          rw [← row_same] at eg
          rw [eg] at en
          have eE : rdL ls ls.length = .error (i + 1) := rdL_err en (by omega)
          walk_at "go"
          rename_i pq H4 s4 n4 e4
          rw [show (1 : Int) + (i : Nat) = ((i + 1 : Nat) : Int) by omega] at e4
          exact k2 _ eE _ _ (sameT s0b s4) e4
        | false =>
          obtain ⟨a, b, c5, d, f, e5⟩ := cols_all hn
          have eg := row_of_cols e5
          rw [← row_same] at eg
          have lt := cols_lt (fun l n => lnOf_lt) e5
          rw [e5] at enb'
          have enb2 : Hb pn = some (.lst (([(a : Int), b, c5, d, f]).map V.int)) := enb'
          walk_at "go"
          refine lcW_list (xs := [(a : Int), b, c5, d, f]) (fun z => mkS (wd z)) enb2 (by show 5 ≤ 100000; omega) (fun z H' Z hz s6 q => ?_) fun D H6 hD s6 e6 => ?_
          · walk_at "rd"
            have b := lt z hz
            exact use_grp b.1 b.2 q
          walk_at "rd"
          have wl : ∀ z ∈ [(a : Int), b, c5, d, f], (wd z).length ≤ 80 := fun z hz => Nat.le_trans (wd_len (lt z hz).1 (lt z hz).2) (by decide)
          refine use_lline (sqL_at e6) ⟨wl _ (by simp), wl _ (by simp), wl _ (by simp), wl _ (by simp), wl _ (by simp)⟩ fun H7 s7 => ?_
          have s07 : Same H H7 := sameT s0b (sameT s6 s7)
          walk_at "rd"
          refine r_neS (by rfl) ?_
          by_cases cc : lnL (cw a) (cw b) (cw c5) (cw d) (cw f) = x
          · rw [if_pos cc] at eg
            rw [eg] at en
            walk_at "rd"
            refine iN' (congrArg (fun z => V.str (mkS z)) cc) ?_
            have epr7 := s7 _ _ (s6 _ _ (s3b _ _ epr))
            have en7 := s7 _ _ (s6 _ _ enb2)
            have ep07 := s7 _ _ (s6 _ _ (s3b _ _ ep0))
            have hrs7 := hrs.mono (sameT s3b (sameT s6 s7))
            clear e6 s6 s7 enb2 enb' s0b epr ep0 hrs s3b
            walk_at "go"
            rename_i pt H8 s8 n8 e8
            have epr8 := s8 _ _ epr7
            refine r_append epr8 (by rw [hrs7.1, lrs]; rw [el, List.length_cons] at many; omega) ?_
            exact ⟨_, _, _, _, _, _, _, _, rfl, en, upd_same, ((hrs7.mono s8).snoc (r := (a, b, c5, d, f)) e8).upd epr8, lst_upd ne (s8 _ _ ep07), same_mut (sameT s07 s8) nr⟩
          · rw [if_neg cc] at eg
            rw [eg] at en
            have eE : rdL ls ls.length = .error (i + 1) := rdL_err en (by omega)
            walk_at "rd"
            refine iY' (fun z => cc (mkS_inj.mp (V.str.inj z))) ?_
            walk_at "go"
            rename_i pq H8 s8 n8 e8
            rw [show (1 : Int) + (i : Nat) = ((i + 1 : Nat) : Int) by omega] at e8
            exact k2 _ eE _ _ (sameT s07 s8) e8
    · rintro σ H3' ⟨rs, us, x3, x4, x5, x6, x7, x8, rfl, er, epr, hrs, ep0, s03⟩
      walk_at "go"
      exact k1 _ er _ _ _ s03 epr hrs
  · rw [if_neg c] at eR
    rw [eR] at k2
    walk_at "rd"
    refine iY' (fun z => c (mkS_inj.mp (V.str.inj z))) ?_
    walk_at "go"
    rename_i pq H4 s4 n4 e4
    exact k2 _ rfl _ _ (sameT s03 s4) e4

end G57
end
section
set_option maxRecDepth 100000
set_option maxHeartbeats 4000000
namespace G57
open PySem PySem.Spec PyProof.Rows L2
/-! the walk's small steps: "rd" reads on as far as it can -/
local macro_rules | `(tactic| walk_at "fact") => `(tactic| fail)
local macro_rules | `(tactic| walk_at "rd1") => `(tactic| with_reducible first
  | (refine v_id ?_; first | refine r_var_0 ?_ | refine r_var_1 ?_ | refine r_var_2 ?_ | refine r_var_3 ?_ | refine r_var_4 ?_ | refine r_var_5 ?_ | refine r_var_6 ?_ | refine r_var_7 ?_ | refine r_var_8 ?_ | refine r_var_9 ?_ | refine r_var_10 ?_ | refine r_var_11 ?_ | refine r_var_12 ?_ | refine r_var_13 ?_ | refine r_var_14 ?_ | refine r_var_15 ?_ | refine r_var_16 ?_ | refine r_var_17 ?_ | refine r_var_18 ?_ | refine r_var_19 ?_ | refine r_var_20 ?_ | refine r_var_21 ?_ | refine r_var_22 ?_ | refine r_var_23 ?_ | refine r_var_24 ?_ | refine r_var_25 ?_ | refine r_var_26 ?_ | refine r_var_27 ?_ | refine r_var rfl ?_)
  | (refine s_id ?_; first | refine r_set_0 ?_ | refine r_set_1 ?_ | refine r_set_2 ?_ | refine r_set_3 ?_ | refine r_set_4 ?_ | refine r_set_5 ?_ | refine r_set_6 ?_ | refine r_set_7 ?_ | refine r_set_8 ?_ | refine r_set_9 ?_ | refine r_set_10 ?_ | refine r_set_11 ?_ | refine r_set_12 ?_ | refine r_set_13 ?_ | refine r_set_14 ?_ | refine r_set_15 ?_ | refine r_set_16 ?_ | refine r_set_17 ?_ | refine r_set_18 ?_ | refine r_set_19 ?_ | refine r_set_20 ?_ | refine r_set_21 ?_ | refine r_set_22 ?_ | refine r_set_23 ?_ | refine r_set_24 ?_ | refine r_set_25 ?_ | refine r_set_26 ?_ | refine r_set_27 ?_ | refine r_setU ?_)
  | refine r_c ?_
  | refine r_op ?_
  | refine r_I0 ?_
  | refine r_seq ?_
  | refine r_asg ?_
  | refine r_fld ?_
  | refine r_nil ?_
  | refine r_cons ?_
  | refine r_cb ?_
  | refine r_max ?_
  | refine r_min ?_
  | refine r_ret ?_
  | refine r_met ?_
  | refine r_call ?_
  | refine r_B ?_
  | refine r_test ?_
  | refine r_b' ?_
  | refine r_ifS ?_
  | refine r_if ?_
  | refine r_par ?_
  | refine r_par2 ?_
  | refine r_drop ?_
  | refine r_next ?_
  | refine r_make ?_
  | refine r_sfld ?_
  | refine r_int1 ?_
  | refine r_intb ?_
  | refine r_and ?_
  | refine r_or ?_
  | refine r_not ?_
  | refine r_chain ?_
  | refine r_isN ?_
  | refine r_notN ?_
  | refine r_un ?_
  | refine r_U ?_
  | refine r_par3 ?_
  | refine r_par33 ?_
  | refine r_tup ?_
  | refine r_lst ?_
  | refine r_prop ?_
  | refine r_bm ?_
  | refine r_bm0 ?_
  | refine r_andV ?_
  | refine r_orV ?_
  | refine r_notV ?_
  | refine r_asgG ?_
  | refine r_gname ?_
  | refine r_gcons ?_
  | refine r_gnil ?_
  | refine r_rng1 ?_
  | refine r_rng2 ?_
  | refine r_for ?_
  | refine r_lc1 ?_
  | refine r_lc2 ?_
  | refine r_lc3 ?_
  | refine r_lc ?_
  | refine r_while ?_
  | refine r_rev ?_
  | refine r_sl ?_
  | refine r_augS ?_
  | refine r_iL ?_
  | refine r_iT ?_
  | refine r_iE ?_
  | refine r_ipI ?_
  | refine r_aug rfl ?_
  | refine r_cval ?_
  | refine r_turnN ?_
  | refine iT ?_
  | refine iNT ?_
  | refine iNF ?_
  | refine iOF ?_
  | refine iF ?_
  | refine r_part ?_
  | refine r_pi ?_
  | refine r_gsub ?_
  | refine r_noPart ?_)
local macro_rules | `(tactic| walk_at "rd") => `(tactic| (repeat (first | walk_at "rd1" | walk_at "fact")))
local macro_rules | `(tactic| walk_at "plen") => `(tactic| (repeat (first | decide | refine putF_lt ?_)))
local macro_rules | `(tactic| walk_at "rs") => `(tactic| (repeat ((fail_if_success (with_reducible refine r_stop ?_)); (first | walk_at "rd1" | walk_at "fact"))))
/-! finding a fact in the present heap by the way back; each rule is applied by its conclusion before its premises are sought -/
local macro_rules | `(tactic| walk_at "atx") => `(tactic| fail)
local macro_rules | `(tactic| walk_at "c_h") => `(tactic| first
  | with_reducible assumption
  | ((with_reducible apply hat_s); (with_reducible assumption); walk_at "c_h"))
local macro_rules | `(tactic| walk_at "c_n") => `(tactic| first
  | with_reducible assumption
  | ((with_reducible apply hat_ne); (with_reducible assumption); walk_at "c_h"))
local macro_rules | `(tactic| walk_at "c_o") => `(tactic| first
  | with_reducible assumption
  | with_reducible exact upd_same
  | ((with_reducible apply at_s); (with_reducible assumption); walk_at "c_o")
  | ((with_reducible apply atd_tup); (with_reducible assumption); walk_at "c_h"; walk_at "c_o")
  | ((with_reducible apply atd_ins); (with_reducible assumption); walk_at "c_h"; walk_at "c_o")
  | ((with_reducible apply atd_lst); (with_reducible assumption); walk_at "c_n"; walk_at "c_o")
  | ((with_reducible apply atx_tup); (with_reducible assumption); walk_at "c_o"; walk_at "c_o")
  | ((with_reducible apply atx_ins); (with_reducible assumption); walk_at "c_o"; walk_at "c_o")
  | ((with_reducible apply atx_ne); (with_reducible assumption); (with_reducible assumption); walk_at "c_o"))
local macro_rules | `(tactic| walk_at "c_q") => `(tactic| first
  | with_reducible assumption
  | ((with_reducible apply sqL_s); (with_reducible assumption); walk_at "c_q"))
local macro_rules | `(tactic| walk_at "c_t") => `(tactic| first
  | with_reducible assumption
  | ((with_reducible apply sqT_s); (with_reducible assumption); walk_at "c_t")
  | ((with_reducible apply sqT_d); (with_reducible assumption); walk_at "c_h"; walk_at "c_t")
  | ((with_reducible apply sqT_x); (with_reducible assumption); walk_at "c_o"; walk_at "c_t"))
local macro_rules | `(tactic| walk_at "c_p") => `(tactic| first
  | with_reducible assumption
  | ((with_reducible apply pairs_s); (with_reducible assumption); walk_at "c_p"))
local macro_rules | `(tactic| walk_at "at") => `(tactic| first
  | with_reducible assumption
  | with_reducible exact upd_same
  | walk_at "atx"
  | ((with_reducible apply sqL_at); walk_at "c_o")
  | ((with_reducible apply sqL_s); (with_reducible assumption); walk_at "c_q")
  | ((with_reducible apply sqT_at); walk_at "c_o")
  | ((with_reducible apply sqT_id); walk_at "c_t")
  | ((with_reducible apply hat_id); walk_at "c_h")
  | ((with_reducible apply pairs_id); walk_at "c_p")
  | ((with_reducible apply ne_id); walk_at "c_n")
  | ((with_reducible apply at_id); walk_at "c_o"))
/-! a length, an inequality -/
local macro_rules | `(tactic| walk_at "le") => `(tactic| first | exact Nat.le_of_ble_eq_true rfl | omega | (simp; done) | (simp; omega))
local macro_rules | `(tactic| walk_at "ar") => `(tactic| first | omega | exact ⟨by omega, by omega⟩ | exact .inl ⟨by omega, by omega⟩ | exact .inr ⟨by omega, by omega⟩ | exact .inr (by omega) | exact .inl (by omega) | exact ⟨by omega, by omega, by omega⟩ | decide)
/-! calls of the text's own defs, with letters for what they leave -/
local macro_rules | `(tactic| walk_at "use") => `(tactic| fail)
local macro_rules | `(tactic| walk_at "go1") => `(tactic| first
  | walk_at "rd1"
  | walk_at "fact"
  | walk_at "use"
  | with_reducible refine r_p6 ?_
  | with_reducible refine r_p8 ?_
  | with_reducible refine r_p9 ?_
  | with_reducible refine r_p10 ?_
  | with_reducible refine r_p12 ?_
  | with_reducible refine r_p14 ?_
  | with_reducible refine r_p15 ?_
  | with_reducible refine r_p17 ?_
  | with_reducible refine r_p18 ?_
  | ((with_reducible apply r_I); walk_at "ar")
  | ((with_reducible apply a_neNil); walk_at "at"; intro _ _)
  | ((with_reducible apply a_eqNil); walk_at "at"; intro _ _)
  | ((with_reducible apply a_nwT); walk_at "le"; intro _ _ _ _ _)
  | ((with_reducible apply a_nwL); walk_at "le"; intro _ _ _ _ _)
  | ((with_reducible apply r_ixL (j := 0)); walk_at "at"; rfl; rfl)
  | ((with_reducible apply r_ixL (j := 1)); walk_at "at"; rfl; rfl)
  | ((with_reducible apply r_ixL (j := 2)); walk_at "at"; rfl; rfl)
  | ((with_reducible apply r_ixL (j := 3)); walk_at "at"; rfl; rfl)
  | ((with_reducible apply r_ixT (j := 0)); walk_at "at"; rfl; rfl)
  | ((with_reducible apply r_ixT (j := 1)); walk_at "at"; rfl; rfl)
  | ((with_reducible apply r_ixT (j := 2)); walk_at "at"; rfl; rfl)
  | ((with_reducible apply a_pick2); walk_at "at"; omega; omega; intro _ _)
  | ((with_reducible apply a_pick3); walk_at "at"; omega; omega; intro _ _)
  | ((with_reducible apply a_pick4); walk_at "at"; omega; omega; intro _ _)
  | ((with_reducible apply r_gtup); walk_at "at"; rfl)
  | ((with_reducible apply a_lenLI); walk_at "at")
  | ((with_reducible apply r_lenL); walk_at "at")
  | ((with_reducible apply r_lenT); walk_at "at")
  | ((with_reducible apply r_tyL); walk_at "at")
  | ((with_reducible apply a_cat); walk_at "at"; walk_at "at"; walk_at "le"; intro _ _ _ _ _)
  | ((with_reducible apply a_listL); walk_at "at"; intro _ _ _ _ _)
  | ((with_reducible apply a_tupL); walk_at "at"; intro _ _ _ _ _)
  | ((with_reducible apply a_slL); walk_at "at"; intro _ _ _ _ _)
  | ((with_reducible apply a_revL); walk_at "at"; intro _ _ _ _ _)
  | ((with_reducible apply r_sumT); walk_at "at")
  | ((with_reducible apply r_sumL); walk_at "at")
  | ((with_reducible refine ⟨_, rfl, ?_, ?_, ?_⟩); omega; omega)
  | ((with_reducible refine ⟨_, _, rfl, ⟨?_, ?_, ?_, ?_⟩, ?_⟩); omega; omega; omega; omega)
  | with_reducible refine ⟨_, rfl, ⟨_, by walk_at "at"⟩, ?_⟩)
local macro_rules | `(tactic| walk_at "go") => `(tactic| (repeat (walk_at "go1")))
local macro_rules | `(tactic| walk_at "sames") => `(tactic| first | exact sameR | assumption | ((with_reducible apply sameB); assumption; walk_at "sames"))
local macro_rules | `(tactic| walk_at "sameds") => `(tactic| first | assumption | ((with_reducible apply sameD_of); walk_at "sames"; done) | ((with_reducible apply sameDB); assumption; walk_at "sameds") | ((with_reducible apply sameDS); assumption; walk_at "sameds"))
local macro_rules | `(tactic| walk_at "gs") => `(tactic| (repeat ((fail_if_success (with_reducible refine r_stop ?_)); (walk_at "go1"))))
theorem ok_InvalidBakery_init {P : Program} {w : World} {K : PySem.W.Frag} {mg : Str → Option Value} {base : Heap} (T : Tx K mg) : XMak P w K mg base 1 "InvalidBakery" ["part", "index"] (spX2 K "InvalidBakery" "part" "index") := by
  refine xmak_of (d := d_InvalidBakery_init) (C := "InvalidBakery") (fn_InvalidBakery_init T) rfl rfl (fox_InvalidBakery T) sc_InvalidBakery_init (fun _ _ _ _ _ _ us ws h1 h2 => match us, ws, h1, h2 with | [_], [_, _], _, _ => rfl) (fun vs H Q E h => ?_) (fun cdv A outer s H vs Q E hr h => ?_)
  · obtain ⟨x, v1, v2, rfl, ex, k⟩ := h
    rfl
  obtain ⟨x, v1, v2, rfl, ex, k⟩ := h
  refine ⟨_, (pss_cons (ps_expr (pe_linit (pe_glob (v := .ref (He.ga K "LoafError")) rfl (fg_LoafError T) rfl) (fli_LoafError T).1 (fli_LoafError T).2 (pa_cons (pv 0) (pa_cons pe_str pa_nil))))
      (pss_cons (ps_ost (pv 0) (pv 1) rfl)
      (pss_one (ps_ost (pv 0) (pv 2) rfl)))), ?_⟩
  try dsimp only [cxOf, Cx.nox, Cx.wish, NdefX.ncx]
  repeat rw [st_cons]
  repeat rw [st_none]
  try rw [st_nn]
  walk_at "rd"
  refine ⟨rfl, ?_⟩
  walk_at "rd"
  refine ⟨_, _, _, rfl, by decide, (fox_InvalidBakery T).t, ex, ?_⟩
  walk_at "rd"
  try dsimp only
  refine r_ost ?_
  walk_at "rd"
  refine ⟨_, _, rfl, (fox_InvalidBakery T).t, fxn_InvalidBakery_part T, .inl ⟨ex, fun d hd hn => ?_⟩⟩
  walk_at "rd"
  try dsimp only
  refine r_ost ?_
  walk_at "rd"
  refine ⟨_, _, rfl, (fox_InvalidBakery T).t, fxn_InvalidBakery_index T, .inr ⟨d, _, upd_same, (upd_ne hn).trans upd_same, Nat.le_of_ble_eq_true rfl, ?_⟩⟩
  try dsimp only
  exact k d hd hn
theorem ok_InvalidReport_init {P : Program} {w : World} {K : PySem.W.Frag} {mg : Str → Option Value} {base : Heap} (T : Tx K mg) : XMak P w K mg base 1 "InvalidReport" ["row"] (spX1 K "InvalidReport" "row") := by
  refine xmak_of (d := d_InvalidReport_init) (C := "InvalidReport") (fn_InvalidReport_init T) rfl rfl (fox_InvalidReport T) sc_InvalidReport_init (fun _ _ _ _ _ _ us ws h1 h2 => match us, ws, h1, h2 with | [_], [_], _, _ => rfl) (fun vs H Q E h => ?_) (fun cdv A outer s H vs Q E hr h => ?_)
  · obtain ⟨x, v1, rfl, ex, k⟩ := h
    rfl
  obtain ⟨x, v1, rfl, ex, k⟩ := h
  refine ⟨_, (pss_cons (ps_expr (pe_linit (pe_glob (v := .ref (He.ga K "LoafError")) rfl (fg_LoafError T) rfl) (fli_LoafError T).1 (fli_LoafError T).2 (pa_cons (pv 0) (pa_cons pe_str pa_nil))))
      (pss_one (ps_ost (pv 0) (pv 1) rfl))), ?_⟩
  try dsimp only [cxOf, Cx.nox, Cx.wish, NdefX.ncx]
  repeat rw [st_cons]
  repeat rw [st_none]
  try rw [st_nn]
  walk_at "rd"
  refine ⟨rfl, ?_⟩
  walk_at "rd"
  refine ⟨_, _, _, rfl, by decide, (fox_InvalidReport T).t, ex, ?_⟩
  walk_at "rd"
  try dsimp only
  refine r_ost ?_
  walk_at "rd"
  refine ⟨_, _, rfl, (fox_InvalidReport T).t, fxn_InvalidReport_row T, .inl ⟨ex, fun d hd hn => ?_⟩⟩
  try dsimp only
  exact k d hd hn
def NumE (K : PySem.W.Frag) (E : XK) (H : Hp) : Prop := ∀ H', Same H H' → E (.ref (He.ga K "InvalidNumber")) none H'
def spNumX (K : PySem.W.Frag) : Sp := fun vs H _ E => ∃ n lo hi : Int, vs = [.int n, .int lo, .int hi] ∧ (n < lo ∨ hi < n) ∧ NumE K E H
theorem ok_validate_number_x {P : Program} {w : World} {K : PySem.W.Frag} {mg : Str → Option Value} {base : Heap} (T : Tx K mg) : CalX P w K mg base 1 "validate_number" (spNumX K) := by
  refine calX_of (d := d_validate_number) (x := "validate_number") (fn_validate_number T) rfl rfl (fg_validate_number T) sc_validate_number (fun _ _ _ _ _ _ us hl => match us, hl with | [_, _, _], _ => rfl) (fun vs H Q E h => ?_) (fun cdv A outer s H vs Q E hr h => ?_)
  · obtain ⟨n, lo, hi, rfl, h, k⟩ := h
    rfl
  obtain ⟨n, lo, hi, rfl, h, k⟩ := h
  refine ⟨_, (pss_one (ps_if (pt_not (pt_chain op_le op_le (pv 1) (pv 0) (pv 2))) (pss_one (ps_rz rfl rfl rfl rfl rfl (fex_InvalidNumber T) (fg_InvalidNumber T) (by rfl))) pss_nil)), ?_⟩
  try dsimp only [cxOf, Cx.nox, Cx.wish, NdefX.ncx]
  repeat rw [st_cons]
  repeat rw [st_none]
  try rw [st_nn]
  walk_at "rd"
  refine i2 (fun c => ?_) (fun c => ?_)
  · walk_at "rd"
    refine iY' (by omega) ?_
    exact r_rz (k _ sameR)
  · walk_at "rd"
    exact r_rz (k _ sameR)
theorem use_numX {K : PySem.W.Frag} {H : Hp} {Q : VK} {E : XK} {x lo hi : Int} (h : x < lo ∨ hi < x) (q : NumE K E H) : spNumX K [.int x, .int lo, .int hi] H Q E := ⟨x, lo, hi, rfl, h, q⟩
theorem use_numI {H : Hp} {Q : VK} {E : XK} {x lo hi : Int} (h1 : lo ≤ x) (h2 : x ≤ hi) (q : Q .non H) : spNum [.int x, .int lo, .int hi] H Q E := ⟨x, lo, hi, rfl, h1, h2, q⟩
def spRepX (K : PySem.W.Frag) : Sp := fun vs H _ E => ∃ (v : V) (f l : Int), vs = [v, .int f, .int l] ∧ (f < 0 ∨ 1000000000000000000 < f ∨ l < f ∨ 1000000000000000000 < l ∨ f + 499 < l) ∧ NumE K E H
theorem ok_report_x {P : Program} {w : World} {K : PySem.W.Frag} {mg : Str → Option Value} {base : Heap} (T : Tx K mg) : CalX P w K mg base 2 "report" (spRepX K) := by
  have G_validate_number := ok_validate_number (P := P) (w := w) (base := base) T
  have G_validate_number_x := ok_validate_number_x (P := P) (w := w) (base := base) T
  refine calX_of (d := d_report) (x := "report") (fn_report T) rfl rfl (fg_report T) sc_report (fun _ _ _ _ _ _ us hl => match us, hl with | [_, _, _], _ => rfl) (fun vs H Q E h => ?_) (fun cdv A outer s H vs Q E hr h => ?_)
  · obtain ⟨v, f, l, rfl, h, k⟩ := h
    rfl
  obtain ⟨v, f, l, rfl, h, k⟩ := h
  refine ⟨_, (pss_cons (ps_expr (pe_two (C8.pe_c G_validate_number hr (by decide) (by rfl) (pa_cons (pv 1) (pa_cons pe_int (pa_cons (C8.pe_gc rfl (gc_int (fi_MAX_DAY T))) pa_nil)))) (pe_cX G_validate_number_x hr (by decide) (by rfl) (passes_call (takes_of rfl rfl rfl rfl) fun _ _ _ _ h => h) (pa_cons (pv 1) (pa_cons pe_int (pa_cons (C8.pe_gc rfl (gc_int (fi_MAX_DAY T))) pa_nil))))))
      (pss_cons (ps_expr (pe_two (C8.pe_c G_validate_number hr (by decide) (by rfl) (pa_cons (pv 2) (pa_cons (pv 1) (pa_cons (pe_callB (cq_min2 rfl) (by rfl) (fn_min T) bb_min (pa_cons (C8.pe_gc rfl (gc_int (fi_MAX_DAY T))) (pa_cons (pe_op op_sub (pe_op op_add (pv 1) (C8.pe_gc rfl (gc_int (fi_MAX_LINES T)))) pe_int) pa_nil))) pa_nil)))) (pe_cX G_validate_number_x hr (by decide) (by rfl) (passes_call (takes_of rfl rfl rfl rfl) fun _ _ _ _ h => h) (pa_cons (pv 2) (pa_cons (pv 1) (pa_cons (pe_callB (cq_min2 rfl) (by rfl) (fn_min T) bb_min (pa_cons (C8.pe_gc rfl (gc_int (fi_MAX_DAY T))) (pa_cons (pe_op op_sub (pe_op op_add (pv 1) (C8.pe_gc rfl (gc_int (fi_MAX_LINES T)))) pe_int) pa_nil))) pa_nil))))))
      (pss_cons ps_never (pss_cons ps_never (pss_one ps_never))))), ?_⟩
  try dsimp only [cxOf, Cx.nox, Cx.wish, NdefX.ncx]
  repeat rw [st_cons]
  repeat rw [st_none]
  try rw [st_nn]
  walk_at "rd"
  by_cases c : 0 ≤ f ∧ f ≤ 1000000000000000000
  · refine r_two1 ?_
    walk_at "rd"
    refine use_numI c.1 c.2 ?_
    walk_at "rd"
    refine r_two2 ?_
    walk_at "rd"
    refine use_numX (by omega) k
  · refine r_two2 ?_
    walk_at "rd"
    exact use_numX (by omega) k

end G57
end
section
set_option maxRecDepth 100000
set_option maxHeartbeats 4000000
namespace G57
open PySem PySem.Spec PyProof.Rows L2
/-! the walk's small steps: "rd" reads on as far as it can -/
local macro_rules | `(tactic| walk_at "fact") => `(tactic| fail)
local macro_rules | `(tactic| walk_at "rd1") => `(tactic| with_reducible first
  | (refine v_id ?_; first | refine r_var_0 ?_ | refine r_var_1 ?_ | refine r_var_2 ?_ | refine r_var_3 ?_ | refine r_var_4 ?_ | refine r_var_5 ?_ | refine r_var_6 ?_ | refine r_var_7 ?_ | refine r_var_8 ?_ | refine r_var_9 ?_ | refine r_var_10 ?_ | refine r_var_11 ?_ | refine r_var_12 ?_ | refine r_var_13 ?_ | refine r_var_14 ?_ | refine r_var_15 ?_ | refine r_var_16 ?_ | refine r_var_17 ?_ | refine r_var_18 ?_ | refine r_var_19 ?_ | refine r_var_20 ?_ | refine r_var_21 ?_ | refine r_var_22 ?_ | refine r_var_23 ?_ | refine r_var_24 ?_ | refine r_var_25 ?_ | refine r_var_26 ?_ | refine r_var_27 ?_ | refine r_var rfl ?_)
  | (refine s_id ?_; first | refine r_set_0 ?_ | refine r_set_1 ?_ | refine r_set_2 ?_ | refine r_set_3 ?_ | refine r_set_4 ?_ | refine r_set_5 ?_ | refine r_set_6 ?_ | refine r_set_7 ?_ | refine r_set_8 ?_ | refine r_set_9 ?_ | refine r_set_10 ?_ | refine r_set_11 ?_ | refine r_set_12 ?_ | refine r_set_13 ?_ | refine r_set_14 ?_ | refine r_set_15 ?_ | refine r_set_16 ?_ | refine r_set_17 ?_ | refine r_set_18 ?_ | refine r_set_19 ?_ | refine r_set_20 ?_ | refine r_set_21 ?_ | refine r_set_22 ?_ | refine r_set_23 ?_ | refine r_set_24 ?_ | refine r_set_25 ?_ | refine r_set_26 ?_ | refine r_set_27 ?_ | refine r_setU ?_)
  | refine r_c ?_
  | refine r_op ?_
  | refine r_I0 ?_
  | refine r_seq ?_
  | refine r_asg ?_
  | refine r_fld ?_
  | refine r_nil ?_
  | refine r_cons ?_
  | refine r_cb ?_
  | refine r_max ?_
  | refine r_min ?_
  | refine r_ret ?_
  | refine r_met ?_
  | refine r_call ?_
  | refine r_B ?_
  | refine r_test ?_
  | refine r_b' ?_
  | refine r_ifS ?_
  | refine r_if ?_
  | refine r_par ?_
  | refine r_par2 ?_
  | refine r_drop ?_
  | refine r_next ?_
  | refine r_make ?_
  | refine r_sfld ?_
  | refine r_int1 ?_
  | refine r_intb ?_
  | refine r_and ?_
  | refine r_or ?_
  | refine r_not ?_
  | refine r_chain ?_
  | refine r_isN ?_
  | refine r_notN ?_
  | refine r_un ?_
  | refine r_U ?_
  | refine r_par3 ?_
  | refine r_par33 ?_
  | refine r_tup ?_
  | refine r_lst ?_
  | refine r_prop ?_
  | refine r_bm ?_
  | refine r_bm0 ?_
  | refine r_andV ?_
  | refine r_orV ?_
  | refine r_notV ?_
  | refine r_asgG ?_
  | refine r_gname ?_
  | refine r_gcons ?_
  | refine r_gnil ?_
  | refine r_rng1 ?_
  | refine r_rng2 ?_
  | refine r_for ?_
  | refine r_lc1 ?_
  | refine r_lc2 ?_
  | refine r_lc3 ?_
  | refine r_lc ?_
  | refine r_while ?_
  | refine r_rev ?_
  | refine r_sl ?_
  | refine r_augS ?_
  | refine r_iL ?_
  | refine r_iT ?_
  | refine r_iE ?_
  | refine r_ipI ?_
  | refine r_aug rfl ?_
  | refine r_cval ?_
  | refine r_turnN ?_
  | refine iT ?_
  | refine iNT ?_
  | refine iNF ?_
  | refine iOF ?_
  | refine iF ?_
  | refine r_part ?_
  | refine r_pi ?_
  | refine r_gsub ?_
  | refine r_noPart ?_)
local macro_rules | `(tactic| walk_at "rd") => `(tactic| (repeat (first | walk_at "rd1" | walk_at "fact")))
local macro_rules | `(tactic| walk_at "plen") => `(tactic| (repeat (first | decide | refine putF_lt ?_)))
local macro_rules | `(tactic| walk_at "rs") => `(tactic| (repeat ((fail_if_success (with_reducible refine r_stop ?_)); (first | walk_at "rd1" | walk_at "fact"))))
/-! finding a fact in the present heap by the way back; each rule is applied by its conclusion before its premises are sought -/
local macro_rules | `(tactic| walk_at "atx") => `(tactic| fail)
local macro_rules | `(tactic| walk_at "c_h") => `(tactic| first
  | with_reducible assumption
  | ((with_reducible apply hat_s); (with_reducible assumption); walk_at "c_h"))
local macro_rules | `(tactic| walk_at "c_n") => `(tactic| first
  | with_reducible assumption
  | ((with_reducible apply hat_ne); (with_reducible assumption); walk_at "c_h"))
local macro_rules | `(tactic| walk_at "c_o") => `(tactic| first
  | with_reducible assumption
  | with_reducible exact upd_same
  | ((with_reducible apply at_s); (with_reducible assumption); walk_at "c_o")
  | ((with_reducible apply atd_tup); (with_reducible assumption); walk_at "c_h"; walk_at "c_o")
  | ((with_reducible apply atd_ins); (with_reducible assumption); walk_at "c_h"; walk_at "c_o")
  | ((with_reducible apply atd_lst); (with_reducible assumption); walk_at "c_n"; walk_at "c_o")
  | ((with_reducible apply atx_tup); (with_reducible assumption); walk_at "c_o"; walk_at "c_o")
  | ((with_reducible apply atx_ins); (with_reducible assumption); walk_at "c_o"; walk_at "c_o")
  | ((with_reducible apply atx_ne); (with_reducible assumption); (with_reducible assumption); walk_at "c_o"))
local macro_rules | `(tactic| walk_at "c_q") => `(tactic| first
  | with_reducible assumption
  | ((with_reducible apply sqL_s); (with_reducible assumption); walk_at "c_q"))
local macro_rules | `(tactic| walk_at "c_t") => `(tactic| first
  | with_reducible assumption
  | ((with_reducible apply sqT_s); (with_reducible assumption); walk_at "c_t")
  | ((with_reducible apply sqT_d); (with_reducible assumption); walk_at "c_h"; walk_at "c_t")
  | ((with_reducible apply sqT_x); (with_reducible assumption); walk_at "c_o"; walk_at "c_t"))
local macro_rules | `(tactic| walk_at "c_p") => `(tactic| first
  | with_reducible assumption
  | ((with_reducible apply pairs_s); (with_reducible assumption); walk_at "c_p"))
local macro_rules | `(tactic| walk_at "at") => `(tactic| first
  | with_reducible assumption
  | with_reducible exact upd_same
  | walk_at "atx"
  | ((with_reducible apply sqL_at); walk_at "c_o")
  | ((with_reducible apply sqL_s); (with_reducible assumption); walk_at "c_q")
  | ((with_reducible apply sqT_at); walk_at "c_o")
  | ((with_reducible apply sqT_id); walk_at "c_t")
  | ((with_reducible apply hat_id); walk_at "c_h")
  | ((with_reducible apply pairs_id); walk_at "c_p")
  | ((with_reducible apply ne_id); walk_at "c_n")
  | ((with_reducible apply at_id); walk_at "c_o"))
/-! a length, an inequality -/
local macro_rules | `(tactic| walk_at "le") => `(tactic| first | exact Nat.le_of_ble_eq_true rfl | omega | (simp; done) | (simp; omega))
local macro_rules | `(tactic| walk_at "ar") => `(tactic| first | omega | exact ⟨by omega, by omega⟩ | exact .inl ⟨by omega, by omega⟩ | exact .inr ⟨by omega, by omega⟩ | exact .inr (by omega) | exact .inl (by omega) | exact ⟨by omega, by omega, by omega⟩ | decide)
/-! calls of the text's own defs, with letters for what they leave -/
local macro_rules | `(tactic| walk_at "use") => `(tactic| fail)
local macro_rules | `(tactic| walk_at "go1") => `(tactic| first
  | walk_at "rd1"
  | walk_at "fact"
  | walk_at "use"
  | with_reducible refine r_p6 ?_
  | with_reducible refine r_p8 ?_
  | with_reducible refine r_p9 ?_
  | with_reducible refine r_p10 ?_
  | with_reducible refine r_p12 ?_
  | with_reducible refine r_p14 ?_
  | with_reducible refine r_p15 ?_
  | with_reducible refine r_p17 ?_
  | with_reducible refine r_p18 ?_
  | ((with_reducible apply r_I); walk_at "ar")
  | ((with_reducible apply a_neNil); walk_at "at"; intro _ _)
  | ((with_reducible apply a_eqNil); walk_at "at"; intro _ _)
  | ((with_reducible apply a_nwT); walk_at "le"; intro _ _ _ _ _)
  | ((with_reducible apply a_nwL); walk_at "le"; intro _ _ _ _ _)
  | ((with_reducible apply r_ixL (j := 0)); walk_at "at"; rfl; rfl)
  | ((with_reducible apply r_ixL (j := 1)); walk_at "at"; rfl; rfl)
  | ((with_reducible apply r_ixL (j := 2)); walk_at "at"; rfl; rfl)
  | ((with_reducible apply r_ixL (j := 3)); walk_at "at"; rfl; rfl)
  | ((with_reducible apply r_ixT (j := 0)); walk_at "at"; rfl; rfl)
  | ((with_reducible apply r_ixT (j := 1)); walk_at "at"; rfl; rfl)
  | ((with_reducible apply r_ixT (j := 2)); walk_at "at"; rfl; rfl)
  | ((with_reducible apply a_pick2); walk_at "at"; omega; omega; intro _ _)
  | ((with_reducible apply a_pick3); walk_at "at"; omega; omega; intro _ _)
  | ((with_reducible apply a_pick4); walk_at "at"; omega; omega; intro _ _)
  | ((with_reducible apply r_gtup); walk_at "at"; rfl)
  | ((with_reducible apply a_lenLI); walk_at "at")
  | ((with_reducible apply r_lenL); walk_at "at")
  | ((with_reducible apply r_lenT); walk_at "at")
  | ((with_reducible apply r_tyL); walk_at "at")
  | ((with_reducible apply a_cat); walk_at "at"; walk_at "at"; walk_at "le"; intro _ _ _ _ _)
  | ((with_reducible apply a_listL); walk_at "at"; intro _ _ _ _ _)
  | ((with_reducible apply a_tupL); walk_at "at"; intro _ _ _ _ _)
  | ((with_reducible apply a_slL); walk_at "at"; intro _ _ _ _ _)
  | ((with_reducible apply a_revL); walk_at "at"; intro _ _ _ _ _)
  | ((with_reducible apply r_sumT); walk_at "at")
  | ((with_reducible apply r_sumL); walk_at "at")
  | ((with_reducible refine ⟨_, rfl, ?_, ?_, ?_⟩); omega; omega)
  | ((with_reducible refine ⟨_, _, rfl, ⟨?_, ?_, ?_, ?_⟩, ?_⟩); omega; omega; omega; omega)
  | with_reducible refine ⟨_, rfl, ⟨_, by walk_at "at"⟩, ?_⟩)
local macro_rules | `(tactic| walk_at "go") => `(tactic| (repeat (walk_at "go1")))
local macro_rules | `(tactic| walk_at "sames") => `(tactic| first | exact sameR | assumption | ((with_reducible apply sameB); assumption; walk_at "sames"))
local macro_rules | `(tactic| walk_at "sameds") => `(tactic| first | assumption | ((with_reducible apply sameD_of); walk_at "sames"; done) | ((with_reducible apply sameDB); assumption; walk_at "sameds") | ((with_reducible apply sameDS); assumption; walk_at "sameds"))
local macro_rules | `(tactic| walk_at "gs") => `(tactic| (repeat ((fail_if_success (with_reducible refine r_stop ?_)); (walk_at "go1"))))
open TL
local macro_rules | `(tactic| walk_at "fact") => `(tactic| first
  | ((with_reducible apply r_lenS); (with_reducible assumption))
  | ((with_reducible apply r_slS); (with_reducible assumption))
  | with_reducible refine r_m1 ?_
  | with_reducible refine r_m1R ?_)
def RepE (K : PySem.W.Frag) (E : XK) (H : Hp) (i : Int) : Prop := ∀ (d : Addr) (H' : Hp), Same H H' → H' d = none → E (.ref (He.ga K "InvalidReport")) (some d) (upd H' d (.xd [("row", .int i)]))
def spParX (K : PySem.W.Frag) : Sp := fun vs H Q E => ∃ l : List Nat, vs = [.str (mkS l)] ∧ l.length ≤ 16000 ∧ (∀ rs, rdT headL l = .ok rs → ∀ p us H', Same H H' → H' p = some (.lst us) → Rows5 H' us rs → Q (.ref p) H') ∧ ∀ e, rdT headL l = .error e → RepE K E H (e : Nat)
theorem ok_parse_report_x {P : Program} {w : World} {K : PySem.W.Frag} {mg : Str → Option Value} {base : Heap} (T : Tx K mg) : CalX P w K mg base 3 "parse_report" (spParX K) := by
  have G_line_of := ok_line_of (P := P) (w := w) (base := base) T
  have G_InvalidReport := ok_InvalidReport_init (P := P) (w := w) (base := base) T
  have G_number_of := ok_number_of (P := P) (w := w) (base := base) T
  have G_number_word := ok_number_word (P := P) (w := w) (base := base) T
  refine calX_of (d := d_parse_report) (x := "parse_report") (fn_parse_report T) rfl rfl (fg_parse_report T) sc_parse_report (fun _ _ _ _ _ _ us hl => match us, hl with | [_], _ => rfl) (fun vs H Q E h => ?_) (fun cdv A outer s H vs Q E hr h => ?_)
  · obtain ⟨l, rfl, hl, k1, k2⟩ := h
    rfl
  obtain ⟨l, rfl, hl, k1, k2⟩ := h
  refine ⟨_, (pss_cons (ps_asg (pe_splitN (pv 0) pe_str) (pg_starL (by rfl) (pgs_cons (pg_name (i := 1) sc_parse_report.nd rfl (Or.inl rfl)) (pgs_star (pg_name (i := 2) sc_parse_report.nd rfl (Or.inl rfl)) pgs_nil))))
      (pss_cons (ps_if (pt_cmpR op_ne (pv 1) (C8.pe_c G_line_of hr (by decide) (by rfl) (pa_cons (pe_tup (pa_cons pe_str (pa_cons pe_str (pa_cons pe_str (pa_cons pe_str (pa_cons pe_str pa_nil)))))) pa_nil)) (nomark _)) (pss_one (ps_rzk rfl rfl rfl rfl rfl G_InvalidReport hr (by decide) (fg_InvalidReport T) (by rfl) (pk_cons pe_int pk_nil))) pss_nil)
      (pss_cons (ps_set (i := 3) sc_parse_report.nd rfl (Or.inl rfl) (pe_lst pa_nil))
      (pss_cons (ps_for (passes_of rfl) rfl (pi_enum (by rfl) (fn_enumerate T) (pa_cons (pv 2) pa_nil)) (pg_tup (n := 2) (by rfl) (pgs_cons (pg_name (i := 4) sc_parse_report.nd rfl (Or.inl rfl)) (pgs_cons (pg_name (i := 5) sc_parse_report.nd rfl (Or.inl rfl)) pgs_nil))) (pss_cons (ps_par (i := 6) (j := 7) (by rfl) sc_parse_report.nd rfl rfl (by decide) rfl rfl (pa_cons (pe_lst pa_nil) (pa_cons pe_int pa_nil)) (by rfl))
      (pss_cons (ps_for (passes_of rfl) rfl (pi_tup (pe_glob (v := .ref (He.ga K "WIDTHS")) rfl (fg_WIDTHS T) rfl)) (pg_name (i := 8) sc_parse_report.nd rfl (Or.inl rfl)) (pss_cons (ps_expr (pe_bm PySem.F.plainAttrs_list PySem.F.slot_list_append PySem.F.type_list_append mt_append (pv 6) (pa_cons (C8.pe_c G_number_of hr (by decide) (by rfl) (pa_cons (pe_lstripN (pe_slice sl_str (pv 5) (po_some (pv 7)) (po_some (pe_op op_add (pv 7) (pv 8)))) pe_str) pa_nil)) pa_nil)))
        (pss_one (ps_aug (i := 7) sc_parse_report.nd rfl (Or.inl rfl) (pv 8) ip_add))))
      (pss_cons (ps_if (PW.pt (pw_or (pt_cmpR op_noneInF pe_non (pv 6) (by rfl)) (pw_or1 (pt_cmpR op_ne (C8.pe_c G_line_of hr (by decide) (by rfl) (pa_cons (pe_lc (own := [("number", 9)]) (by rfl) sc_parse_report.nd (pi_list (pv 6)) (blkOk_by (own := [("number", 9)]) (N := ["text", "head", "lines", "found", "row", "line", "numbers", "passed", "width", "number"]) (sc := defScope s_parse_report) (by decide +kernel)) (fun _ _ _ _ _ => (pg_name (i := 9) sc_parse_report.nd rfl (Or.inl rfl))) (fun _ _ _ _ _ => pts_nil) (fun _ _ _ _ _ => by exact (C8.pe_c G_number_word hr (by decide) (by rfl) (pa_cons (pv 9) pa_nil)))) pa_nil)) (pv 5) (nomark _))))) (pss_one (ps_rzk rfl rfl rfl rfl rfl G_InvalidReport hr (by decide) (fg_InvalidReport T) (by rfl) (pk_cons (pe_op op_add (pv 4) pe_int) pk_nil))) pss_nil)
      (pss_one (ps_expr (pe_bm PySem.F.plainAttrs_list PySem.F.slot_list_append PySem.F.type_list_append mt_append (pv 3) (pa_cons (pe_callTy cq_tupL (by rfl) (fn_tuple T) bb_tuple (pa_cons (pv 6) pa_nil)) pa_nil))))))))
      (pss_one (ps_ret (pv 3))))))), ?_⟩
  try dsimp only [cxOf, Cx.nox, Cx.wish, NdefX.ncx]
  repeat rw [st_cons]
  repeat rw [st_none]
  try rw [st_nn]
  have lim := sizeBig
  obtain ⟨h, ls, el⟩ := lns_ne l
  have many := lns_many l
  rw [el, List.length_cons] at many
  have eR : rdT headL l = if h = headL then rdL ls ls.length else .error 0 := by unfold rdT; rw [el]
  walk_at "go"
  refine r_splitN (by decide +kernel) (by rw [mkS_len]; omega) fun p0 n0 => ?_
  rw [split_lns, el]
  have s0 := same_new n0 (o := .lst ((((h :: ls).map mkS)).map V.str))
  have e0 : upd H p0 (.lst ((((h :: ls).map mkS)).map V.str)) p0 = some (.lst ((((h :: ls).map mkS)).map V.str)) := upd_same
  generalize upd H p0 (.lst ((((h :: ls).map mkS)).map V.str)) = H0 at s0 e0 ⊢
  refine ⟨p0, .str (mkS h), (ls.map mkS).map V.str, rfl, sqL_at e0, by rw [List.length_map, List.length_map]; omega, fun D hD => ?_⟩
  have s1 := sameT s0 (same_new hD (o := .lst ((ls.map mkS).map V.str)))
  have eD : upd H0 D (.lst ((ls.map mkS).map V.str)) D = some (.lst ((ls.map mkS).map V.str)) := upd_same
  generalize upd H0 D (.lst ((ls.map mkS).map V.str)) = H1 at s1 eD ⊢
  clear s0 e0 hD n0
  walk_at "go"
  rename_i pw H2 s2 n2 e2
  have hh : wordsAt K H2 pw (codes "day") (codes "baked") (codes "sold") (codes "missed") (codes "thrown") := .inl (by simp only [codes, mkS_tl]; exact sqT_at e2)
  refine use_line hh (by decide +kernel) ?_
  have s02 : Same H H2 := sameT s1 s2
  have eD2 := s2 _ _ eD
  refine r_neS (by rfl) ?_
  by_cases c : h = headL
  · rw [if_pos c] at eR
    rw [eR] at k1 k2
    walk_at "rd"
    refine iN' (congrArg (fun z => V.str (mkS z)) c) ?_
    clear eD hh s1 s2 n2 e2
    walk_at "go"
    rename_i pf H3 s3 n3 e3
    have s03 := sameT s02 s3
    have nf : H pf = none := none_of_same s02 n3
    have eD3 := s3 _ _ eD2
    have nD : D ≠ pf := fun z => by
      rw [z, n3] at eD2
      cases eD2
    clear s02 s3 n3 eD2
    refine r_iEL ?_
    walk_at "rd"
    refine ⟨_, _, rfl, sqL_at eD3, ?_⟩
    refine for_enumL (xs := (ls.map mkS).map V.str) (fun i σ H' => ∃ (rs : List Row5) (us : List V) (x4 x5 x6 x7 x8 x9 : Option V), σ = [some (.str (mkS l)), some (.str (mkS h)), some (.ref D), some (.ref pf), x4, x5, x6, x7, x8, x9] ∧ rdL ls i = .ok rs ∧ H' pf = some (.lst us) ∧ Rows5 H' us rs ∧ H' D = some (.lst ((ls.map mkS).map V.str)) ∧ Same H H')
      ⟨[], [], none, none, none, none, none, none, rfl, rfl, e3, Rows5.nil, eD3, s03⟩ (fun i σ H' w => by
        obtain ⟨_, _, _, _, _, _, _, _, _, _, _, _, e, _⟩ := w
        exact sqL_at e) ?_ ?_
    · clear e3 eD3 s03 H3 H0 H1 H2
      rintro i v T' σ H3 hv ⟨rs, us, x4, x5, x6, x7, x8, x9, rfl, er, epf, hrs, eD3, s03⟩ hT
      have hi : i < ls.length := by simpa using (List.getElem?_eq_some_iff.mp hv).1
      have en := rdL_next er
      have lrs := rdL_len er
      have hx : ls[i]? = some (ls.getD i []) := by rw [List.getD_eq_getElem?_getD, List.getElem?_eq_getElem hi]; rfl
      obtain ⟨x, ex⟩ : ∃ x, x = ls.getD i [] := ⟨_, rfl⟩
      rw [← ex] at en hx
      have hxl : x.length ≤ 16000 := Nat.le_trans (lns_le l (by rw [el]; exact List.mem_cons_of_mem _ (List.mem_of_getElem? hx))) hl
      obtain rfl : V.str (mkS x) = v := by simpa [hx] using hv
      have s4 := same_new hT (o := .tup [.int (i : Nat), .str (mkS x)])
      have eT : (upd H3 T' (.tup [.int (i : Nat), .str (mkS x)])) T' = some (.tup [.int (i : Nat), .str (mkS x)]) := upd_same
      refine r_turnG ?_
      generalize upd H3 T' (.tup [.int (i : Nat), .str (mkS x)]) = H4 at s4 eT ⊢
      have s04 := sameT s03 s4
      have epf4 := s4 _ _ epf
      have eD4 := s4 _ _ eD3
      have hrs4 := hrs.mono s4
      clear s03 s4 epf eD3 hrs hT
      refine r_gtup (sqT_at eT) rfl ?_
      walk_at "go"
      rename_i pn H5 s5 n5 e5
      have hW := ft_WIDTHS T
      refine ⟨_, rfl, ⟨_, hW _⟩, ?_⟩
      refine fR_tup (xs := ([26, 14, 14, 14, 14] : List Int).map V.int) (fun j σ H' => (∃ x8, σ = [some (.str (mkS l)), some (.str (mkS h)), some (.ref D), some (.ref pf), some (.int (i : Nat)), some (.str (mkS x)), some (.ref pn), some (.int (ofs5 j : Nat)), x8, x9]) ∧ Same H4 H' ∧ H' pn = some (.lst ((colsOf nbOf x j).map noV)))
        ⟨⟨_, rfl⟩, s5, e5⟩ (fun j σ H' _ w => hW _) ?_ ?_
      · clear e5 s5 H5
        rintro j v σ Hb hv ⟨⟨x8, rfl⟩, s5, e5⟩
        have hj : j < 5 := (List.getElem?_eq_some_iff.mp hv).1
        obtain rfl : V.int (wdt5 j : Nat) = v := by
          match j, hj with
          | 0, _ => cases hv; rfl
          | 1, _ => cases hv; rfl
          | 2, _ => cases hv; rfl
          | 3, _ => cases hv; rfl
          | 4, _ => cases hv; rfl
        have eo : ((ofs5 j : Nat) : Int) + (wdt5 j : Nat) = ((ofs5 (j + 1) : Nat) : Int) := by have := ofs_next hj; omega
        walk_at "go"
        rw [eo]
        refine r_slS (by rw [mkS_len]; exact Nat.le_trans hxl (Nat.le_trans (by decide) lim)) ?_
        rw [cut_mid x hj]
        walk_at "rd"
        refine r_lstripN (by rw [mkS_len, List.length_take]; exact Nat.le_trans (Nat.min_le_left _ _) (Nat.le_trans (wdt_le j) (Nat.le_trans (by decide) lim))) ?_
        rw [lstrip_stp]
        walk_at "rd"
        refine use_nof (Nat.le_trans (cutW_len x (ofs5 j) (wdt5 j)) (Nat.le_trans (wdt_le j) (by decide))) fun Hc sc => ?_
        walk_at "rd"
        refine r_append (sc _ _ e5) (by rw [List.length_map, cols_len]; omega) ?_
        walk_at "rd"
        rw [eo]
        refine ⟨⟨_, rfl⟩, same_mut (sameT s5 sc) n5, ?_⟩
        rw [upd_same, cols_next, List.map_append]
        rfl
      · clear e5 s5 H5
        rintro σ Hb ⟨⟨x8, rfl⟩, s5, e5⟩
        have e5' : Hb pn = some (.lst ((colsOf nbOf x 5).map noV)) := e5
        clear e5
        have s0b := sameT s04 s5
        walk_at "go"
        refine r_noneIn (sqL_at e5') (noV_ni _) ?_
        rw [any_noV]
        cases hn : (colsOf nbOf x 5).any Option.isNone with
        | true =>
          have eg := row_gone hn
          rw [eg] at en
          have eE : rdL ls ls.length = .error (i + 1) := rdL_err en (by omega)
          walk_at "go"
          refine r_rzk ?_
          walk_at "rd"
          exact a_rzk1 fun d hd => k2 _ eE d _ s0b hd
        | false =>
          obtain ⟨a, b, c5, d, f, ec⟩ := cols_all hn
          have eg := row_of_cols ec
          have lt := cols_lt (fun l n => nbOf_lt) ec
          rw [ec] at e5'
          have enb2 : Hb pn = some (.lst (([(a : Int), b, c5, d, f]).map V.int)) := e5'
          walk_at "go"
          refine lcW_list (xs := [(a : Int), b, c5, d, f]) (fun z => mkS (wd z)) enb2 (by show 5 ≤ 100000; omega) (fun z H' Z hz s6 q => ?_) fun D6 H6 hD s6 e6 => ?_
          · walk_at "rd"
            have b := lt z hz
            exact use_word b.1 b.2 (q _ sameR)
          walk_at "rd"
          have wl : ∀ z ∈ [(a : Int), b, c5, d, f], (wd z).length ≤ 1000 := fun z hz => Nat.le_trans (wd_len (lt z hz).1 (lt z hz).2) (by decide)
          refine use_line (.inr (sqL_at e6)) ⟨wl _ (by simp), wl _ (by simp), wl _ (by simp), wl _ (by simp), wl _ (by simp)⟩ ?_
          have s06 : Same H H6 := sameT s0b s6
          walk_at "rd"
          refine r_neS (by rfl) ?_
          by_cases cc : lnL (cw a) (cw b) (cw c5) (cw d) (cw f) = x
          · rw [if_pos cc] at eg
            rw [eg] at en
            walk_at "rd"
            refine iN' (congrArg (fun z => V.str (mkS z)) cc) ?_
            have epr7 := s6 _ _ (s5 _ _ epf4)
            have en7 := s6 _ _ enb2
            have ep07 := s6 _ _ (s5 _ _ eD4)
            have hrs7 := hrs4.mono (sameT s5 s6)
            clear e6 s6 enb2 e5' s0b epf4 eD4 hrs4 s5
            walk_at "go"
            rename_i pt H8 s8 n8 e8
            have epr8 := s8 _ _ epr7
            refine r_append epr8 (by rw [hrs7.1, lrs]; omega) ?_
            exact ⟨_, _, _, _, _, _, _, _, rfl, en, upd_same, ((hrs7.mono s8).snoc (r := (a, b, c5, d, f)) e8).upd epr8, lst_upd nD (s8 _ _ ep07), same_mut (sameT s06 s8) nf⟩
          · rw [if_neg cc] at eg
            rw [eg] at en
            have eE : rdL ls ls.length = .error (i + 1) := rdL_err en (by omega)
            walk_at "rd"
            refine iY' (fun z => cc (mkS_inj.mp (V.str.inj z))) ?_
            walk_at "rd"
            refine r_rzk ?_
            walk_at "rd"
            exact a_rzk1 fun d hd => k2 _ eE d _ s06 hd
    · rintro σ H3' ⟨rs, us, x4, x5, x6, x7, x8, x9, rfl, er, epr, hrs, ep0, s03⟩
      rw [List.length_map, List.length_map] at er
      walk_at "go"
      exact k1 _ er _ _ _ s03 epr hrs
  · rw [if_neg c] at eR
    rw [eR] at k2
    walk_at "rd"
    refine iY' (fun z => c (mkS_inj.mp (V.str.inj z))) ?_
    walk_at "rd"
    refine r_rzk ?_
    walk_at "rd"
    exact a_rzk1 fun d hd => k2 _ rfl d _ s02 hd

end G57
end
section
set_option maxRecDepth 100000
set_option maxHeartbeats 4000000
namespace G57
open PySem PySem.Spec PyProof.Rows L2
/-! the walk's small steps: "rd" reads on as far as it can -/
local macro_rules | `(tactic| walk_at "fact") => `(tactic| fail)
local macro_rules | `(tactic| walk_at "rd1") => `(tactic| with_reducible first
  | (refine v_id ?_; first | refine r_var_0 ?_ | refine r_var_1 ?_ | refine r_var_2 ?_ | refine r_var_3 ?_ | refine r_var_4 ?_ | refine r_var_5 ?_ | refine r_var_6 ?_ | refine r_var_7 ?_ | refine r_var_8 ?_ | refine r_var_9 ?_ | refine r_var_10 ?_ | refine r_var_11 ?_ | refine r_var_12 ?_ | refine r_var_13 ?_ | refine r_var_14 ?_ | refine r_var_15 ?_ | refine r_var_16 ?_ | refine r_var_17 ?_ | refine r_var_18 ?_ | refine r_var_19 ?_ | refine r_var_20 ?_ | refine r_var_21 ?_ | refine r_var_22 ?_ | refine r_var_23 ?_ | refine r_var_24 ?_ | refine r_var_25 ?_ | refine r_var_26 ?_ | refine r_var_27 ?_ | refine r_var rfl ?_)
  | (refine s_id ?_; first | refine r_set_0 ?_ | refine r_set_1 ?_ | refine r_set_2 ?_ | refine r_set_3 ?_ | refine r_set_4 ?_ | refine r_set_5 ?_ | refine r_set_6 ?_ | refine r_set_7 ?_ | refine r_set_8 ?_ | refine r_set_9 ?_ | refine r_set_10 ?_ | refine r_set_11 ?_ | refine r_set_12 ?_ | refine r_set_13 ?_ | refine r_set_14 ?_ | refine r_set_15 ?_ | refine r_set_16 ?_ | refine r_set_17 ?_ | refine r_set_18 ?_ | refine r_set_19 ?_ | refine r_set_20 ?_ | refine r_set_21 ?_ | refine r_set_22 ?_ | refine r_set_23 ?_ | refine r_set_24 ?_ | refine r_set_25 ?_ | refine r_set_26 ?_ | refine r_set_27 ?_ | refine r_setU ?_)
  | refine r_c ?_
  | refine r_op ?_
  | refine r_I0 ?_
  | refine r_seq ?_
  | refine r_asg ?_
  | refine r_fld ?_
  | refine r_nil ?_
  | refine r_cons ?_
  | refine r_cb ?_
  | refine r_max ?_
  | refine r_min ?_
  | refine r_ret ?_
  | refine r_met ?_
  | refine r_call ?_
  | refine r_B ?_
  | refine r_test ?_
  | refine r_b' ?_
  | refine r_ifS ?_
  | refine r_if ?_
  | refine r_par ?_
  | refine r_par2 ?_
  | refine r_drop ?_
  | refine r_next ?_
  | refine r_make ?_
  | refine r_sfld ?_
  | refine r_int1 ?_
  | refine r_intb ?_
  | refine r_and ?_
  | refine r_or ?_
  | refine r_not ?_
  | refine r_chain ?_
  | refine r_isN ?_
  | refine r_notN ?_
  | refine r_un ?_
  | refine r_U ?_
  | refine r_par3 ?_
  | refine r_par33 ?_
  | refine r_tup ?_
  | refine r_lst ?_
  | refine r_prop ?_
  | refine r_bm ?_
  | refine r_bm0 ?_
  | refine r_andV ?_
  | refine r_orV ?_
  | refine r_notV ?_
  | refine r_asgG ?_
  | refine r_gname ?_
  | refine r_gcons ?_
  | refine r_gnil ?_
  | refine r_rng1 ?_
  | refine r_rng2 ?_
  | refine r_for ?_
  | refine r_lc1 ?_
  | refine r_lc2 ?_
  | refine r_lc3 ?_
  | refine r_lc ?_
  | refine r_while ?_
  | refine r_rev ?_
  | refine r_sl ?_
  | refine r_augS ?_
  | refine r_iL ?_
  | refine r_iT ?_
  | refine r_iE ?_
  | refine r_ipI ?_
  | refine r_aug rfl ?_
  | refine r_cval ?_
  | refine r_turnN ?_
  | refine iT ?_
  | refine iNT ?_
  | refine iNF ?_
  | refine iOF ?_
  | refine iF ?_
  | refine r_part ?_
  | refine r_pi ?_
  | refine r_gsub ?_
  | refine r_noPart ?_)
local macro_rules | `(tactic| walk_at "rd") => `(tactic| (repeat (first | walk_at "rd1" | walk_at "fact")))
local macro_rules | `(tactic| walk_at "plen") => `(tactic| (repeat (first | decide | refine putF_lt ?_)))
local macro_rules | `(tactic| walk_at "rs") => `(tactic| (repeat ((fail_if_success (with_reducible refine r_stop ?_)); (first | walk_at "rd1" | walk_at "fact"))))
/-! finding a fact in the present heap by the way back; each rule is applied by its conclusion before its premises are sought -/
local macro_rules | `(tactic| walk_at "atx") => `(tactic| fail)
local macro_rules | `(tactic| walk_at "c_h") => `(tactic| first
  | with_reducible assumption
  | ((with_reducible apply hat_s); (with_reducible assumption); walk_at "c_h"))
local macro_rules | `(tactic| walk_at "c_n") => `(tactic| first
  | with_reducible assumption
  | ((with_reducible apply hat_ne); (with_reducible assumption); walk_at "c_h"))
local macro_rules | `(tactic| walk_at "c_o") => `(tactic| first
  | with_reducible assumption
  | with_reducible exact upd_same
  | ((with_reducible apply at_s); (with_reducible assumption); walk_at "c_o")
  | ((with_reducible apply atd_tup); (with_reducible assumption); walk_at "c_h"; walk_at "c_o")
  | ((with_reducible apply atd_ins); (with_reducible assumption); walk_at "c_h"; walk_at "c_o")
  | ((with_reducible apply atd_lst); (with_reducible assumption); walk_at "c_n"; walk_at "c_o")
  | ((with_reducible apply atx_tup); (with_reducible assumption); walk_at "c_o"; walk_at "c_o")
  | ((with_reducible apply atx_ins); (with_reducible assumption); walk_at "c_o"; walk_at "c_o")
  | ((with_reducible apply atx_ne); (with_reducible assumption); (with_reducible assumption); walk_at "c_o"))
local macro_rules | `(tactic| walk_at "c_q") => `(tactic| first
  | with_reducible assumption
  | ((with_reducible apply sqL_s); (with_reducible assumption); walk_at "c_q"))
local macro_rules | `(tactic| walk_at "c_t") => `(tactic| first
  | with_reducible assumption
  | ((with_reducible apply sqT_s); (with_reducible assumption); walk_at "c_t")
  | ((with_reducible apply sqT_d); (with_reducible assumption); walk_at "c_h"; walk_at "c_t")
  | ((with_reducible apply sqT_x); (with_reducible assumption); walk_at "c_o"; walk_at "c_t"))
local macro_rules | `(tactic| walk_at "c_p") => `(tactic| first
  | with_reducible assumption
  | ((with_reducible apply pairs_s); (with_reducible assumption); walk_at "c_p"))
local macro_rules | `(tactic| walk_at "at") => `(tactic| first
  | with_reducible assumption
  | with_reducible exact upd_same
  | walk_at "atx"
  | ((with_reducible apply sqL_at); walk_at "c_o")
  | ((with_reducible apply sqL_s); (with_reducible assumption); walk_at "c_q")
  | ((with_reducible apply sqT_at); walk_at "c_o")
  | ((with_reducible apply sqT_id); walk_at "c_t")
  | ((with_reducible apply hat_id); walk_at "c_h")
  | ((with_reducible apply pairs_id); walk_at "c_p")
  | ((with_reducible apply ne_id); walk_at "c_n")
  | ((with_reducible apply at_id); walk_at "c_o"))
/-! a length, an inequality -/
local macro_rules | `(tactic| walk_at "le") => `(tactic| first | exact Nat.le_of_ble_eq_true rfl | omega | (simp; done) | (simp; omega))
local macro_rules | `(tactic| walk_at "ar") => `(tactic| first | omega | exact ⟨by omega, by omega⟩ | exact .inl ⟨by omega, by omega⟩ | exact .inr ⟨by omega, by omega⟩ | exact .inr (by omega) | exact .inl (by omega) | exact ⟨by omega, by omega, by omega⟩ | decide)
/-! calls of the text's own defs, with letters for what they leave -/
local macro_rules | `(tactic| walk_at "use") => `(tactic| fail)
local macro_rules | `(tactic| walk_at "go1") => `(tactic| first
  | walk_at "rd1"
  | walk_at "fact"
  | walk_at "use"
  | with_reducible refine r_p6 ?_
  | with_reducible refine r_p8 ?_
  | with_reducible refine r_p9 ?_
  | with_reducible refine r_p10 ?_
  | with_reducible refine r_p12 ?_
  | with_reducible refine r_p14 ?_
  | with_reducible refine r_p15 ?_
  | with_reducible refine r_p17 ?_
  | with_reducible refine r_p18 ?_
  | ((with_reducible apply r_I); walk_at "ar")
  | ((with_reducible apply a_neNil); walk_at "at"; intro _ _)
  | ((with_reducible apply a_eqNil); walk_at "at"; intro _ _)
  | ((with_reducible apply a_nwT); walk_at "le"; intro _ _ _ _ _)
  | ((with_reducible apply a_nwL); walk_at "le"; intro _ _ _ _ _)
  | ((with_reducible apply r_ixL (j := 0)); walk_at "at"; rfl; rfl)
  | ((with_reducible apply r_ixL (j := 1)); walk_at "at"; rfl; rfl)
  | ((with_reducible apply r_ixL (j := 2)); walk_at "at"; rfl; rfl)
  | ((with_reducible apply r_ixL (j := 3)); walk_at "at"; rfl; rfl)
  | ((with_reducible apply r_ixT (j := 0)); walk_at "at"; rfl; rfl)
  | ((with_reducible apply r_ixT (j := 1)); walk_at "at"; rfl; rfl)
  | ((with_reducible apply r_ixT (j := 2)); walk_at "at"; rfl; rfl)
  | ((with_reducible apply a_pick2); walk_at "at"; omega; omega; intro _ _)
  | ((with_reducible apply a_pick3); walk_at "at"; omega; omega; intro _ _)
  | ((with_reducible apply a_pick4); walk_at "at"; omega; omega; intro _ _)
  | ((with_reducible apply r_gtup); walk_at "at"; rfl)
  | ((with_reducible apply a_lenLI); walk_at "at")
  | ((with_reducible apply r_lenL); walk_at "at")
  | ((with_reducible apply r_lenT); walk_at "at")
  | ((with_reducible apply r_tyL); walk_at "at")
  | ((with_reducible apply a_cat); walk_at "at"; walk_at "at"; walk_at "le"; intro _ _ _ _ _)
  | ((with_reducible apply a_listL); walk_at "at"; intro _ _ _ _ _)
  | ((with_reducible apply a_tupL); walk_at "at"; intro _ _ _ _ _)
  | ((with_reducible apply a_slL); walk_at "at"; intro _ _ _ _ _)
  | ((with_reducible apply a_revL); walk_at "at"; intro _ _ _ _ _)
  | ((with_reducible apply r_sumT); walk_at "at")
  | ((with_reducible apply r_sumL); walk_at "at")
  | ((with_reducible refine ⟨_, rfl, ?_, ?_, ?_⟩); omega; omega)
  | ((with_reducible refine ⟨_, _, rfl, ⟨?_, ?_, ?_, ?_⟩, ?_⟩); omega; omega; omega; omega)
  | with_reducible refine ⟨_, rfl, ⟨_, by walk_at "at"⟩, ?_⟩)
local macro_rules | `(tactic| walk_at "go") => `(tactic| (repeat (walk_at "go1")))
local macro_rules | `(tactic| walk_at "sames") => `(tactic| first | exact sameR | assumption | ((with_reducible apply sameB); assumption; walk_at "sames"))
local macro_rules | `(tactic| walk_at "sameds") => `(tactic| first | assumption | ((with_reducible apply sameD_of); walk_at "sames"; done) | ((with_reducible apply sameDB); assumption; walk_at "sameds") | ((with_reducible apply sameDS); assumption; walk_at "sameds"))
local macro_rules | `(tactic| walk_at "gs") => `(tactic| (repeat ((fail_if_success (with_reducible refine r_stop ?_)); (walk_at "go1"))))
/-! the second family's drawing list on the way back -/
local macro_rules | `(tactic| walk_at "c_hb") => `(tactic| first
  | with_reducible assumption
  | ((with_reducible apply hatB_s); (with_reducible assumption); walk_at "c_hb"))
local macro_rules | `(tactic| walk_at "c_n") => `(tactic| first
  | with_reducible assumption
  | ((with_reducible apply hatB_ne); (with_reducible assumption); walk_at "c_hb"))
local macro_rules | `(tactic| walk_at "c_o") => `(tactic| first
  | with_reducible assumption
  | ((with_reducible apply atB_tup); (with_reducible assumption); walk_at "c_hb"; walk_at "c_o")
  | ((with_reducible apply atB_ins); (with_reducible assumption); walk_at "c_hb"; walk_at "c_o")
  | ((with_reducible apply atB_lst); (with_reducible assumption); walk_at "c_n"; walk_at "c_o"))
local macro_rules | `(tactic| walk_at "c_t") => `(tactic| first
  | with_reducible assumption
  | ((with_reducible apply sqTB); (with_reducible assumption); walk_at "c_hb"; walk_at "c_t"))
local macro_rules | `(tactic| walk_at "at") => `(tactic| ((with_reducible apply hatB_id); walk_at "c_hb"))
local macro_rules | `(tactic| walk_at "go1") => `(tactic| first
  | with_reducible refine r_co ?_
  | with_reducible refine r_lRg ?_
  | with_reducible refine r_rg2 ?_
  | with_reducible refine r_rg2R ?_
  | with_reducible refine r_coR ?_
  | ((with_reducible apply r_coI); walk_at "at"))
local macro_rules | `(tactic| walk_at "c_d") => `(tactic| first
  | with_reducible assumption
  | ((with_reducible apply bakDB); (with_reducible assumption); walk_at "c_hb"; walk_at "c_d"))
local macro_rules | `(tactic| walk_at "use") => `(tactic| first
  | ((with_reducible apply use_drw); walk_at "at"; omega; omega; intro _ _ _ _ _ _))
local macro_rules | `(tactic| walk_at "c_pri") => `(tactic| first
  | with_reducible assumption
  | ((with_reducible apply priAt_s); (with_reducible assumption); walk_at "c_pri")
  | ((with_reducible apply priAt_d); (with_reducible assumption); walk_at "c_hb"; walk_at "c_pri"))
local macro_rules | `(tactic| walk_at "at") => `(tactic| ((with_reducible apply priAt_id); walk_at "c_pri"))
local macro_rules | `(tactic| walk_at "use") => `(tactic| first
  | ((with_reducible apply use_priCall); walk_at "at")
  | ((with_reducible apply a_coP); walk_at "at"))
local macro_rules | `(tactic| walk_at "use") => `(tactic| ((with_reducible apply use_rpf); walk_at "at"; walk_at "at"))
local macro_rules | `(tactic| walk_at "gf") => `(tactic| (repeat ((fail_if_success (with_reducible refine r_stopF ?_)); (walk_at "go1"))))
def spSta2 (K : PySem.W.Frag) : Sp := fun vs H Q _ => ∃ (a : Addr) (xs : List Int), vs = [.ref a] ∧ SqL K H a (xs.map V.int) ∧ xs.length ≤ 63 ∧ ∀ h H', Same H H' → H h = none → HatB K H' h a → Q (.ref h) H'
theorem ok_law_start {P : Program} {w : World} {K : PySem.W.Frag} {mg : Str → Option Value} {base : Heap} (T : Tx K mg) : C8.Cal P w K mg base 1 "_law_start" (spSta2 K) [] := by
  refine cal_of (d := d_law_start) (x := "_law_start") (fn_law_start T) rfl rfl (fg_law_start T) sc_law_start (fun _ _ _ _ _ _ us hl => match us, hl with | [_], _ => rfl) (fun vs H Q E h => ?_) (fun cdv A outer s H vs Q E hr h => ?_)
  · obtain ⟨a, xs, rfl, hx, hl, k⟩ := h
    rfl
  obtain ⟨a, xs, rfl, hx, hl, k⟩ := h
  refine ⟨_, (pss_cons (ps_set (i := 1) sc_law_start.nd rfl (Or.inl rfl) pe_int)
      (pss_cons (ps_for PassesOwn.never rfl (pi_list (pv 0)) (pg_name (i := 2) sc_law_start.nd rfl (Or.inl rfl)) (pss_one (ps_set (i := 1) sc_law_start.nd rfl (Or.inl rfl) (pe_op op_mod (pe_op op_add (pe_op op_add (pe_op op_mul (pv 1) pe_int) (pv 2)) pe_int) pe_int))))
      (pss_one (ps_ret (pe_lst (pa_cons (pv 0) (pa_cons pe_int (pa_cons (pv 1) (pa_cons pe_int pa_nil))))))))), ?_⟩
  try dsimp only [cxOf, Cx.nox, Cx.wish]
  repeat rw [st_cons]
  repeat rw [st_none]
  try rw [st_nn]
  walk_at "rd"
  refine ⟨_, rfl, ⟨_, hx⟩, ?_⟩
  refine fR_list (xs := xs.map V.int) (fun i σ H' => ∃ (m : Int) (x : Option V), σ = [some (.ref a), some (.int m), x] ∧ 0 ≤ m ∧ m < 2147483647 ∧ H' = H) ⟨1, none, rfl, by decide, by decide, rfl⟩ (fun i σ H' _ w => let ⟨_, _, _, _, _, e⟩ := w; by rw [e]; exact hx) ?_ ?_
  · rintro i v σ H' hv ⟨m, x, rfl, m0, m1, rfl⟩
    obtain ⟨z, hz, rfl⟩ : ∃ z, xs[i]? = some z ∧ V.int z = v := by simpa using hv
    walk_at "rd"
    refine r_I (.inr (by decide)) ?_
    walk_at "rd"
    refine r_I (by decide) ?_
    exact ⟨_, some (.int z), rfl, Int.emod_nonneg _ (by decide), Int.emod_lt_of_pos _ (by decide), rfl⟩
  · rintro σ H' ⟨m, x, rfl, m0, m1, rfl⟩
    walk_at "rd"
    refine r_nwL (Nat.le_of_ble_eq_true rfl) fun p hp => ?_
    exact k p _ (same_new hp) hp ⟨xs, 0, m, 0, upd_same, same_sqL (hid_new hp) hx, hl, Int.le_refl _, m0, m1, Int.le_refl _⟩
/-- a drawn number below the limit; only the drawing list changes -/
def spDrw (K : PySem.W.Frag) : Sp := fun vs H Q _ => ∃ (h a : Addr) (n : Int), vs = [.ref h, .int n] ∧ HatB K H h a ∧ 1 ≤ n ∧ n ≤ 1000000000000000000 ∧ ∀ r H', 0 ≤ r → r < n → HatB K H' h a → SameD h h H H' → Q (.int r) H'
theorem ok_law_drawn {P : Program} {w : World} {K : PySem.W.Frag} {mg : Str → Option Value} {base : Heap} (T : Tx K mg) : C8.Cal P w K mg base 1 "_law_drawn" (spDrw K) [] := by
  refine cal_of (d := d_law_drawn) (x := "_law_drawn") (fn_law_drawn T) rfl rfl (fg_law_drawn T) sc_law_drawn (fun _ _ _ _ _ _ us hl => match us, hl with | [_, _], _ => rfl) (fun vs H Q E h => ?_) (fun cdv A outer s H vs Q E hr h => ?_)
  · obtain ⟨h, a, n, rfl, ⟨ns, p, m, r, h1, hs, hl, p0, m0, m1, r0⟩, n0, n1, k⟩ := h
    rfl
  obtain ⟨h, a, n, rfl, ⟨ns, p, m, r, h1, hs, hl, p0, m0, m1, r0⟩, n0, n1, k⟩ := h
  refine ⟨_, (pss_cons (ps_if (pt_cmpR op_gt (pe_ix ix_list (pv 0) pe_int (fun _ _ => rfl)) pe_int (nomark _)) (pss_cons (ps_set (i := 2) sc_law_drawn.nd rfl (Or.inl rfl) (pe_op op_mod (pe_ix ix_list (pv 0) pe_int (fun _ _ => rfl)) (pv 1)))
      (pss_cons (ps_asg (pe_op op_fdivW (pe_ix ix_list (pv 0) pe_int (fun _ _ => rfl)) (pv 1)) (pg_sub (pv 0) pe_int set_list))
      (pss_one (ps_ret (pv 2))))) pss_nil)
      (pss_cons (ps_asg (pe_op op_add (pe_ix ix_list (pv 0) pe_int (fun _ _ => rfl)) pe_int) (pg_sub (pv 0) pe_int set_list))
      (pss_cons (ps_if (pt_cmpR op_le (pe_ix ix_list (pv 0) pe_int (fun _ _ => rfl)) (pe_callB cq_len (by rfl) (fn_len T) bb_len (pa_cons (pe_ix ix_list (pv 0) pe_int (fun _ _ => rfl)) pa_nil)) (nomark _)) (pss_cons (ps_set (i := 3) sc_law_drawn.nd rfl (Or.inl rfl) (pe_ix ix_list (pe_ix ix_list (pv 0) pe_int (fun _ _ => rfl)) (pe_op op_sub (pe_ix ix_list (pv 0) pe_int (fun _ _ => rfl)) pe_int) (fun _ _ => rfl)))
      (pss_cons (ps_asg (pe_ifExp (pt_cmpR op_ge (pv 3) (pe_op op_pow pe_int pe_int) (nomark _)) (pe_op op_fdivW (pv 3) (pv 1)) pe_int) (pg_sub (pv 0) pe_int set_list))
      (pss_one (ps_ret (pe_op op_mod (pv 3) (pv 1)))))) pss_nil)
      (pss_cons (ps_asg (pe_op op_mod (pe_op op_add (pe_op op_mul (pe_ix ix_list (pv 0) pe_int (fun _ _ => rfl)) pe_int) pe_int) pe_int) (pg_sub (pv 0) pe_int set_list))
      (pss_one (ps_ret (pe_op op_mod (pe_op op_fdiv (pe_ix ix_list (pv 0) pe_int (fun _ _ => rfl)) pe_int) (pv 1)))))))), ?_⟩
  try dsimp only [cxOf, Cx.nox, Cx.wish]
  repeat rw [st_cons]
  repeat rw [st_none]
  try rw [st_nn]
  have log : ∀ i, CDivW i n := fun i => ⟨by omega, by
    have z : n.natAbs < 2 ^ 8999 := Nat.lt_of_le_of_lt (show n.natAbs ≤ 1000000000000000000 by omega) (by decide +kernel)
    have z2 := (Nat.log2_lt (by omega : n.natAbs ≠ 0)).mpr z
    omega⟩
  have st : ∀ {p' m' r' : Int} {H' : Hp}, H' h = some (.lst [.ref a, .int p', .int m', .int r']) → (∀ b, b ≠ h → H' b = H b) → 0 ≤ p' → 0 ≤ m' → m' < 2147483647 → 0 ≤ r' → HatB K H' h a ∧ SameD h h H H' := fun {p' m' r' H'} e o q0 q1 q2 q3 =>
    ⟨⟨ns, p', m', r', e, same_sqL (fun b u z => by
      unfold hid at z ⊢
      split at z
      · cases z
      · rename_i nb
        rw [if_neg nb, o b nb]
        exact z) hs, hl, q0, q1, q2, q3⟩, fun b u nb _ z => by rw [o b nb]; exact z⟩
  walk_at "rd"
  refine r_ixL (sqL_at h1) (j := 3) rfl rfl ?_
  walk_at "rs"
  refine i2 (fun c => ?_) (fun c => ?_)
  · walk_at "rd"
    refine r_ixL (sqL_at h1) (j := 3) rfl rfl ?_
    walk_at "rd"
    refine r_I (by omega) ?_
    walk_at "rd"
    refine r_ixL (sqL_at h1) (j := 3) rfl rfl ?_
    walk_at "rd"
    refine r_I (log _) ?_
    walk_at "rd"
    refine r_setL h1 (j := 3) rfl (by show 3 < 4; decide) ?_
    walk_at "rd"
    obtain ⟨q1, q2⟩ := st (p' := p) (m' := m) (r' := r / n) (H' := upd H h (.lst [.ref a, .int p, .int m, .int (r / n)])) upd_same (fun b nb => upd_ne nb) p0 m0 m1 (Int.ediv_nonneg r0 (by omega))
    exact k _ _ (Int.emod_nonneg _ (by omega)) (Int.emod_lt_of_pos _ (by omega)) q1 q2
  · walk_at "rd"
    refine r_ixL (sqL_at h1) (j := 1) rfl rfl ?_
    walk_at "rd"
    refine r_setL h1 (j := 1) rfl (by show 1 < 4; decide) ?_
    have e2 : upd H h (.lst ([V.ref a, V.int p, V.int m, V.int r].set 1 (.int (p + 1)))) h = some (.lst [.ref a, .int (p + 1), .int m, .int r]) := upd_same
    have hs2 : SqL K (upd H h (.lst ([V.ref a, V.int p, V.int m, V.int r].set 1 (.int (p + 1))))) a (ns.map V.int) := same_sqL (fun b u z => by
      unfold hid at z
      split at z
      · cases z
      · rename_i nb
        rw [upd_ne nb]
        exact z) hs
    walk_at "rd"
    refine r_ixL (sqL_at e2) (j := 1) rfl rfl ?_
    walk_at "rd"
    refine r_ixL (sqL_at e2) (j := 0) rfl rfl ?_
    walk_at "rd"
    refine r_lenL hs2 ?_
    walk_at "rs"
    rw [List.length_map]
    refine i2 (fun c2 => ?_) (fun c2 => ?_)
    · obtain ⟨j, ej⟩ : ∃ j : Nat, p = (j : Int) := ⟨p.toNat, by omega⟩
      obtain ⟨z, hz⟩ : ∃ z, ns[j]? = some z := ⟨_, List.getElem?_eq_getElem (by omega)⟩
      walk_at "rd"
      refine r_ixL (sqL_at e2) (j := 0) rfl rfl ?_
      walk_at "rd"
      refine r_ixL (sqL_at e2) (j := 1) rfl rfl ?_
      walk_at "rd"
      refine r_ixL hs2 (j := j) (by omega) (v := .int z) (by rw [List.getElem?_map, hz]; rfl) ?_
      walk_at "rd"
      refine r_I ⟨by decide, by decide, by decide⟩ ?_
      have p18 : (10 : Int) ^ (18 : Int).toNat = 1000000000000000000 := by decide
      walk_at "rd"
      rw [p18]
      refine i2 (fun cz => ?_) (fun cz => ?_)
      · walk_at "rd"
        refine r_I (log _) ?_
        walk_at "rd"
        refine r_setL e2 (j := 3) rfl (by show 3 < 4; decide) ?_
        rw [upd_upd]
        walk_at "rd"
        refine r_I (by omega) ?_
        obtain ⟨q1, q2⟩ := st (p' := p + 1) (m' := m) (r' := z / n) (H' := upd H h (.lst [.ref a, .int (p + 1), .int m, .int (z / n)])) upd_same (fun b nb => upd_ne nb) (by omega) m0 m1 (Int.ediv_nonneg (by omega) (by omega))
        exact k _ _ (Int.emod_nonneg _ (by omega)) (Int.emod_lt_of_pos _ (by omega)) q1 q2
      · walk_at "rd"
        refine r_setL e2 (j := 3) rfl (by show 3 < 4; decide) ?_
        rw [upd_upd]
        walk_at "rd"
        refine r_I (by omega) ?_
        obtain ⟨q1, q2⟩ := st (p' := p + 1) (m' := m) (r' := 0) (H' := upd H h (.lst [.ref a, .int (p + 1), .int m, .int 0])) upd_same (fun b nb => upd_ne nb) (by omega) m0 m1 (Int.le_refl _)
        exact k _ _ (Int.emod_nonneg _ (by omega)) (Int.emod_lt_of_pos _ (by omega)) q1 q2
    · walk_at "rd"
      refine r_ixL (sqL_at e2) (j := 2) rfl rfl ?_
      walk_at "rd"
      refine r_I (.inr (by decide)) ?_
      walk_at "rd"
      refine r_I (by decide) ?_
      walk_at "rd"
      refine r_setL e2 (j := 2) rfl (by show 2 < 4; decide) ?_
      rw [upd_upd]
      generalize hM : (m * 48271 + 11) % 2147483647 = M
      have M0 : 0 ≤ M := by
        rw [← hM]
        exact Int.emod_nonneg _ (by decide)
      have M1 : M < 2147483647 := by
        rw [← hM]
        exact Int.emod_lt_of_pos _ (by decide)
      have e3 : upd H h (.lst [V.ref a, V.int (p + 1), V.int M, V.int r]) h = some (.lst [.ref a, .int (p + 1), .int M, .int r]) := upd_same
      walk_at "rd"
      refine r_ixL (sqL_at e3) (j := 2) rfl rfl ?_
      walk_at "rd"
      refine r_I ⟨by decide, by decide⟩ ?_
      walk_at "rd"
      refine r_I (by omega) ?_
      obtain ⟨q1, q2⟩ := st (p' := p + 1) (m' := M) (r' := r) e3 (fun b nb => upd_ne nb) (by omega) M0 M1 r0
      exact k _ _ (Int.emod_nonneg _ (by omega)) (Int.emod_lt_of_pos _ (by omega)) q1 q2
theorem use_drw {K : PySem.W.Frag} {H : Hp} {Q : VK} {E : XK} {h a : Addr} {n : Int} (hat : HatB K H h a) (h1 : 1 ≤ n) (h2 : n ≤ 1000000000000000000) (q : ∀ r H', 0 ≤ r → r < n → HatB K H' h a → SameD h h H H' → Q (.int r) H') : spDrw K [.ref h, .int n] H Q E := ⟨h, a, n, rfl, hat, h1, h2, q⟩
theorem use_sta2 {K : PySem.W.Frag} {H : Hp} {Q : VK} {E : XK} {a : Addr} {xs : List Int} (hx : SqL K H a (xs.map V.int)) (hl : xs.length ≤ 63) (q : ∀ h H', Same H H' → H h = none → HatB K H' h a → Q (.ref h) H') : spSta2 K [.ref a] H Q E := ⟨a, xs, rfl, hx, hl, q⟩
def spAmB (K : PySem.W.Frag) : Sp := fun vs H Q _ => ∃ (h a : Addr) (n w : Int), vs = [.ref h, .int n, .int w] ∧ HatB K H h a ∧ 0 ≤ n ∧ n ≤ 1000 ∧ 0 ≤ w ∧ w ≤ 1000000000 ∧ ∀ p H' (xs : List Int), HatB K H' h a → SameD h h H H' → H' p = some (.tup (xs.map V.int)) → xs.length = n.toNat → (∀ x ∈ xs, 0 ≤ x ∧ x ≤ w) → Q (.ref p) H'
theorem ok_law_amounts {P : Program} {w : World} {K : PySem.W.Frag} {mg : Str → Option Value} {base : Heap} (T : Tx K mg) : C8.Cal P w K mg base 2 "_law_amounts" (spAmB K) [] := by
  have G_law_drawn := ok_law_drawn (P := P) (w := w) (base := base) T
  refine cal_of (d := d_law_amounts) (x := "_law_amounts") (fn_law_amounts T) rfl rfl (fg_law_amounts T) sc_law_amounts (fun _ _ _ _ _ _ us hl => match us, hl with | [_, _, _], _ => rfl) (fun vs H Q E h => ?_) (fun cdv A outer s H vs Q E hr h => ?_)
  · obtain ⟨h, a, n, w, rfl, hH, n0, n1, w0, w1, k⟩ := h
    rfl
  obtain ⟨h, a, n, w, rfl, hH, n0, n1, w0, w1, k⟩ := h
  refine ⟨_, (pss_one (ps_ret (pe_callTy cq_tupL (by rfl) (fn_tuple T) bb_tuple (pa_cons (pe_lc (own := [("_law_k", 3)]) (by rfl) sc_law_amounts.nd (pi_range1 (by rfl) (fn_range T) (pa_cons (pv 1) pa_nil)) (blkOk_by (own := [("_law_k", 3)]) (N := ["_law_state", "_law_size", "_law_high", "_law_k"]) (sc := defScope s_law_amounts) (by decide +kernel)) (fun _ _ _ _ _ => (pg_name (i := 3) sc_law_amounts.nd rfl (Or.inl rfl))) (fun _ _ _ _ _ => pts_nil) (fun _ _ _ _ _ => by exact (pe_op op_mul (C8.pe_c G_law_drawn hr (by decide) (by rfl) (pa_cons (pv 0) (pa_cons (pe_op op_add (pv 2) pe_int) pa_nil))) (pe_callTy cq_int (by rfl) (fn_int T) bb_int (pa_cons (pe_cmpR op_gt (C8.pe_c G_law_drawn hr (by decide) (by rfl) (pa_cons (pv 0) (pa_cons pe_int pa_nil))) pe_int (nomark _)) pa_nil))))) pa_nil)))), ?_⟩
  try dsimp only [cxOf, Cx.nox, Cx.wish]
  repeat rw [st_cons]
  repeat rw [st_none]
  try rw [st_nn]
  walk_at "rd"
  refine ⟨_, rfl, by omega, by omega, ?_⟩
  refine lcB_ints (fun x => 0 ≤ x ∧ x ≤ w) hH (by omega) (fun i H' Z hi h2 s2 z => ?_) fun D H' ns h2 s2 hD hl ll lb => ?_
  · walk_at "rd"
    refine use_drw h2 (by omega) (by omega) fun r H3 r0 r1 h3 s3 => ?_
    walk_at "rd"
    refine use_drw h3 (by decide) (by decide) fun q H4 q0 q1 h4 s4 => ?_
    walk_at "rd"
    refine r_I (.inr (by split <;> decide)) ?_
    refine z _ _ h4 (s3.tr s4) ?_
    split
    · rw [Int.mul_one]
      omega
    · rw [Int.mul_zero]
      omega
  · walk_at "rd"
    refine r_tupL (sqL_at hl) fun p hp => ?_
    walk_at "rd"
    exact k p _ ns (h2.mono (same_new hp)) (s2.sm (same_new hp)) upd_same (by omega) lb
theorem use_amB {K : PySem.W.Frag} {H : Hp} {Q : VK} {E : XK} {h a : Addr} {n w : Int} (hat : HatB K H h a) (n0 : 0 ≤ n) (n1 : n ≤ 1000) (w0 : 0 ≤ w) (w1 : w ≤ 1000000000) (q : ∀ p H' (xs : List Int), HatB K H' h a → SameD h h H H' → H' p = some (.tup (xs.map V.int)) → xs.length = n.toNat → (∀ x ∈ xs, 0 ≤ x ∧ x ≤ w) → Q (.ref p) H') : spAmB K [.ref h, .int n, .int w] H Q E := ⟨h, a, n, w, rfl, hat, n0, n1, w0, w1, q⟩

end G57
end
section
set_option maxRecDepth 100000
set_option maxHeartbeats 4000000
namespace G57
open PySem PySem.Spec PyProof.Rows L2
/-! the walk's small steps: "rd" reads on as far as it can -/
local macro_rules | `(tactic| walk_at "fact") => `(tactic| fail)
local macro_rules | `(tactic| walk_at "rd1") => `(tactic| with_reducible first
  | (refine v_id ?_; first | refine r_var_0 ?_ | refine r_var_1 ?_ | refine r_var_2 ?_ | refine r_var_3 ?_ | refine r_var_4 ?_ | refine r_var_5 ?_ | refine r_var_6 ?_ | refine r_var_7 ?_ | refine r_var_8 ?_ | refine r_var_9 ?_ | refine r_var_10 ?_ | refine r_var_11 ?_ | refine r_var_12 ?_ | refine r_var_13 ?_ | refine r_var_14 ?_ | refine r_var_15 ?_ | refine r_var_16 ?_ | refine r_var_17 ?_ | refine r_var_18 ?_ | refine r_var_19 ?_ | refine r_var_20 ?_ | refine r_var_21 ?_ | refine r_var_22 ?_ | refine r_var_23 ?_ | refine r_var_24 ?_ | refine r_var_25 ?_ | refine r_var_26 ?_ | refine r_var_27 ?_ | refine r_var rfl ?_)
  | (refine s_id ?_; first | refine r_set_0 ?_ | refine r_set_1 ?_ | refine r_set_2 ?_ | refine r_set_3 ?_ | refine r_set_4 ?_ | refine r_set_5 ?_ | refine r_set_6 ?_ | refine r_set_7 ?_ | refine r_set_8 ?_ | refine r_set_9 ?_ | refine r_set_10 ?_ | refine r_set_11 ?_ | refine r_set_12 ?_ | refine r_set_13 ?_ | refine r_set_14 ?_ | refine r_set_15 ?_ | refine r_set_16 ?_ | refine r_set_17 ?_ | refine r_set_18 ?_ | refine r_set_19 ?_ | refine r_set_20 ?_ | refine r_set_21 ?_ | refine r_set_22 ?_ | refine r_set_23 ?_ | refine r_set_24 ?_ | refine r_set_25 ?_ | refine r_set_26 ?_ | refine r_set_27 ?_ | refine r_setU ?_)
  | refine r_c ?_
  | refine r_op ?_
  | refine r_I0 ?_
  | refine r_seq ?_
  | refine r_asg ?_
  | refine r_fld ?_
  | refine r_nil ?_
  | refine r_cons ?_
  | refine r_cb ?_
  | refine r_max ?_
  | refine r_min ?_
  | refine r_ret ?_
  | refine r_met ?_
  | refine r_call ?_
  | refine r_B ?_
  | refine r_test ?_
  | refine r_b' ?_
  | refine r_ifS ?_
  | refine r_if ?_
  | refine r_par ?_
  | refine r_par2 ?_
  | refine r_drop ?_
  | refine r_next ?_
  | refine r_make ?_
  | refine r_sfld ?_
  | refine r_int1 ?_
  | refine r_intb ?_
  | refine r_and ?_
  | refine r_or ?_
  | refine r_not ?_
  | refine r_chain ?_
  | refine r_isN ?_
  | refine r_notN ?_
  | refine r_un ?_
  | refine r_U ?_
  | refine r_par3 ?_
  | refine r_par33 ?_
  | refine r_tup ?_
  | refine r_lst ?_
  | refine r_prop ?_
  | refine r_bm ?_
  | refine r_bm0 ?_
  | refine r_andV ?_
  | refine r_orV ?_
  | refine r_notV ?_
  | refine r_asgG ?_
  | refine r_gname ?_
  | refine r_gcons ?_
  | refine r_gnil ?_
  | refine r_rng1 ?_
  | refine r_rng2 ?_
  | refine r_for ?_
  | refine r_lc1 ?_
  | refine r_lc2 ?_
  | refine r_lc3 ?_
  | refine r_lc ?_
  | refine r_while ?_
  | refine r_rev ?_
  | refine r_sl ?_
  | refine r_augS ?_
  | refine r_iL ?_
  | refine r_iT ?_
  | refine r_iE ?_
  | refine r_ipI ?_
  | refine r_aug rfl ?_
  | refine r_cval ?_
  | refine r_turnN ?_
  | refine iT ?_
  | refine iNT ?_
  | refine iNF ?_
  | refine iOF ?_
  | refine iF ?_
  | refine r_part ?_
  | refine r_pi ?_
  | refine r_gsub ?_
  | refine r_noPart ?_)
local macro_rules | `(tactic| walk_at "rd") => `(tactic| (repeat (first | walk_at "rd1" | walk_at "fact")))
local macro_rules | `(tactic| walk_at "plen") => `(tactic| (repeat (first | decide | refine putF_lt ?_)))
local macro_rules | `(tactic| walk_at "rs") => `(tactic| (repeat ((fail_if_success (with_reducible refine r_stop ?_)); (first | walk_at "rd1" | walk_at "fact"))))
/-! finding a fact in the present heap by the way back; each rule is applied by its conclusion before its premises are sought -/
local macro_rules | `(tactic| walk_at "atx") => `(tactic| fail)
local macro_rules | `(tactic| walk_at "c_h") => `(tactic| first
  | with_reducible assumption
  | ((with_reducible apply hat_s); (with_reducible assumption); walk_at "c_h"))
local macro_rules | `(tactic| walk_at "c_n") => `(tactic| first
  | with_reducible assumption
  | ((with_reducible apply hat_ne); (with_reducible assumption); walk_at "c_h"))
local macro_rules | `(tactic| walk_at "c_o") => `(tactic| first
  | with_reducible assumption
  | with_reducible exact upd_same
  | ((with_reducible apply at_s); (with_reducible assumption); walk_at "c_o")
  | ((with_reducible apply atd_tup); (with_reducible assumption); walk_at "c_h"; walk_at "c_o")
  | ((with_reducible apply atd_ins); (with_reducible assumption); walk_at "c_h"; walk_at "c_o")
  | ((with_reducible apply atd_lst); (with_reducible assumption); walk_at "c_n"; walk_at "c_o")
  | ((with_reducible apply atx_tup); (with_reducible assumption); walk_at "c_o"; walk_at "c_o")
  | ((with_reducible apply atx_ins); (with_reducible assumption); walk_at "c_o"; walk_at "c_o")
  | ((with_reducible apply atx_ne); (with_reducible assumption); (with_reducible assumption); walk_at "c_o"))
local macro_rules | `(tactic| walk_at "c_q") => `(tactic| first
  | with_reducible assumption
  | ((with_reducible apply sqL_s); (with_reducible assumption); walk_at "c_q"))
local macro_rules | `(tactic| walk_at "c_t") => `(tactic| first
  | with_reducible assumption
  | ((with_reducible apply sqT_s); (with_reducible assumption); walk_at "c_t")
  | ((with_reducible apply sqT_d); (with_reducible assumption); walk_at "c_h"; walk_at "c_t")
  | ((with_reducible apply sqT_x); (with_reducible assumption); walk_at "c_o"; walk_at "c_t"))
local macro_rules | `(tactic| walk_at "c_p") => `(tactic| first
  | with_reducible assumption
  | ((with_reducible apply pairs_s); (with_reducible assumption); walk_at "c_p"))
local macro_rules | `(tactic| walk_at "at") => `(tactic| first
  | with_reducible assumption
  | with_reducible exact upd_same
  | walk_at "atx"
  | ((with_reducible apply sqL_at); walk_at "c_o")
  | ((with_reducible apply sqL_s); (with_reducible assumption); walk_at "c_q")
  | ((with_reducible apply sqT_at); walk_at "c_o")
  | ((with_reducible apply sqT_id); walk_at "c_t")
  | ((with_reducible apply hat_id); walk_at "c_h")
  | ((with_reducible apply pairs_id); walk_at "c_p")
  | ((with_reducible apply ne_id); walk_at "c_n")
  | ((with_reducible apply at_id); walk_at "c_o"))
/-! a length, an inequality -/
local macro_rules | `(tactic| walk_at "le") => `(tactic| first | exact Nat.le_of_ble_eq_true rfl | omega | (simp; done) | (simp; omega))
local macro_rules | `(tactic| walk_at "ar") => `(tactic| first | omega | exact ⟨by omega, by omega⟩ | exact .inl ⟨by omega, by omega⟩ | exact .inr ⟨by omega, by omega⟩ | exact .inr (by omega) | exact .inl (by omega) | exact ⟨by omega, by omega, by omega⟩ | decide)
/-! calls of the text's own defs, with letters for what they leave -/
local macro_rules | `(tactic| walk_at "use") => `(tactic| fail)
local macro_rules | `(tactic| walk_at "go1") => `(tactic| first
  | walk_at "rd1"
  | walk_at "fact"
  | walk_at "use"
  | with_reducible refine r_p6 ?_
  | with_reducible refine r_p8 ?_
  | with_reducible refine r_p9 ?_
  | with_reducible refine r_p10 ?_
  | with_reducible refine r_p12 ?_
  | with_reducible refine r_p14 ?_
  | with_reducible refine r_p15 ?_
  | with_reducible refine r_p17 ?_
  | with_reducible refine r_p18 ?_
  | ((with_reducible apply r_I); walk_at "ar")
  | ((with_reducible apply a_neNil); walk_at "at"; intro _ _)
  | ((with_reducible apply a_eqNil); walk_at "at"; intro _ _)
  | ((with_reducible apply a_nwT); walk_at "le"; intro _ _ _ _ _)
  | ((with_reducible apply a_nwL); walk_at "le"; intro _ _ _ _ _)
  | ((with_reducible apply r_ixL (j := 0)); walk_at "at"; rfl; rfl)
  | ((with_reducible apply r_ixL (j := 1)); walk_at "at"; rfl; rfl)
  | ((with_reducible apply r_ixL (j := 2)); walk_at "at"; rfl; rfl)
  | ((with_reducible apply r_ixL (j := 3)); walk_at "at"; rfl; rfl)
  | ((with_reducible apply r_ixT (j := 0)); walk_at "at"; rfl; rfl)
  | ((with_reducible apply r_ixT (j := 1)); walk_at "at"; rfl; rfl)
  | ((with_reducible apply r_ixT (j := 2)); walk_at "at"; rfl; rfl)
  | ((with_reducible apply a_pick2); walk_at "at"; omega; omega; intro _ _)
  | ((with_reducible apply a_pick3); walk_at "at"; omega; omega; intro _ _)
  | ((with_reducible apply a_pick4); walk_at "at"; omega; omega; intro _ _)
  | ((with_reducible apply r_gtup); walk_at "at"; rfl)
  | ((with_reducible apply a_lenLI); walk_at "at")
  | ((with_reducible apply r_lenL); walk_at "at")
  | ((with_reducible apply r_lenT); walk_at "at")
  | ((with_reducible apply r_tyL); walk_at "at")
  | ((with_reducible apply a_cat); walk_at "at"; walk_at "at"; walk_at "le"; intro _ _ _ _ _)
  | ((with_reducible apply a_listL); walk_at "at"; intro _ _ _ _ _)
  | ((with_reducible apply a_tupL); walk_at "at"; intro _ _ _ _ _)
  | ((with_reducible apply a_slL); walk_at "at"; intro _ _ _ _ _)
  | ((with_reducible apply a_revL); walk_at "at"; intro _ _ _ _ _)
  | ((with_reducible apply r_sumT); walk_at "at")
  | ((with_reducible apply r_sumL); walk_at "at")
  | ((with_reducible refine ⟨_, rfl, ?_, ?_, ?_⟩); omega; omega)
  | ((with_reducible refine ⟨_, _, rfl, ⟨?_, ?_, ?_, ?_⟩, ?_⟩); omega; omega; omega; omega)
  | with_reducible refine ⟨_, rfl, ⟨_, by walk_at "at"⟩, ?_⟩)
local macro_rules | `(tactic| walk_at "go") => `(tactic| (repeat (walk_at "go1")))
local macro_rules | `(tactic| walk_at "sames") => `(tactic| first | exact sameR | assumption | ((with_reducible apply sameB); assumption; walk_at "sames"))
local macro_rules | `(tactic| walk_at "sameds") => `(tactic| first | assumption | ((with_reducible apply sameD_of); walk_at "sames"; done) | ((with_reducible apply sameDB); assumption; walk_at "sameds") | ((with_reducible apply sameDS); assumption; walk_at "sameds"))
local macro_rules | `(tactic| walk_at "gs") => `(tactic| (repeat ((fail_if_success (with_reducible refine r_stop ?_)); (walk_at "go1"))))
/-! the second family's drawing list on the way back -/
local macro_rules | `(tactic| walk_at "c_hb") => `(tactic| first
  | with_reducible assumption
  | ((with_reducible apply hatB_s); (with_reducible assumption); walk_at "c_hb"))
local macro_rules | `(tactic| walk_at "c_n") => `(tactic| first
  | with_reducible assumption
  | ((with_reducible apply hatB_ne); (with_reducible assumption); walk_at "c_hb"))
local macro_rules | `(tactic| walk_at "c_o") => `(tactic| first
  | with_reducible assumption
  | ((with_reducible apply atB_tup); (with_reducible assumption); walk_at "c_hb"; walk_at "c_o")
  | ((with_reducible apply atB_ins); (with_reducible assumption); walk_at "c_hb"; walk_at "c_o")
  | ((with_reducible apply atB_lst); (with_reducible assumption); walk_at "c_n"; walk_at "c_o"))
local macro_rules | `(tactic| walk_at "c_t") => `(tactic| first
  | with_reducible assumption
  | ((with_reducible apply sqTB); (with_reducible assumption); walk_at "c_hb"; walk_at "c_t"))
local macro_rules | `(tactic| walk_at "at") => `(tactic| ((with_reducible apply hatB_id); walk_at "c_hb"))
local macro_rules | `(tactic| walk_at "go1") => `(tactic| first
  | with_reducible refine r_co ?_
  | with_reducible refine r_lRg ?_
  | with_reducible refine r_rg2 ?_
  | with_reducible refine r_rg2R ?_
  | with_reducible refine r_coR ?_
  | ((with_reducible apply r_coI); walk_at "at"))
local macro_rules | `(tactic| walk_at "c_d") => `(tactic| first
  | with_reducible assumption
  | ((with_reducible apply bakDB); (with_reducible assumption); walk_at "c_hb"; walk_at "c_d"))
local macro_rules | `(tactic| walk_at "use") => `(tactic| first
  | ((with_reducible apply use_drw); walk_at "at"; omega; omega; intro _ _ _ _ _ _))
local macro_rules | `(tactic| walk_at "c_pri") => `(tactic| first
  | with_reducible assumption
  | ((with_reducible apply priAt_s); (with_reducible assumption); walk_at "c_pri")
  | ((with_reducible apply priAt_d); (with_reducible assumption); walk_at "c_hb"; walk_at "c_pri"))
local macro_rules | `(tactic| walk_at "at") => `(tactic| ((with_reducible apply priAt_id); walk_at "c_pri"))
local macro_rules | `(tactic| walk_at "use") => `(tactic| first
  | ((with_reducible apply use_priCall); walk_at "at")
  | ((with_reducible apply a_coP); walk_at "at"))
local macro_rules | `(tactic| walk_at "use") => `(tactic| ((with_reducible apply use_rpf); walk_at "at"; walk_at "at"))
local macro_rules | `(tactic| walk_at "gf") => `(tactic| (repeat ((fail_if_success (with_reducible refine r_stopF ?_)); (walk_at "go1"))))
open TL
local macro_rules | `(tactic| walk_at "fact") => `(tactic| first
  | ((with_reducible apply r_lenS); (with_reducible assumption))
  | ((with_reducible apply r_slS); (with_reducible assumption))
  | with_reducible refine r_m1 ?_
  | with_reducible refine r_leS ?_
  | with_reducible refine r_m1R ?_)
/-- a drawing comprehension of texts -/
theorem lcB_txts {K : PySem.W.Frag} {σ : L2.St} {H1 : Hp} {Q : VK} {te : TE} {h a : Addr} {lo : Int} {n j : Nat} (P : List Nat → Prop) (hat : HatB K H1 h a) (hn : n ≤ 1000)
    (hs : ∀ (i : Nat) H' (Z : VK), i < n → HatB K H' h a → SameD h h H1 H' → (∀ y H4, HatB K H4 h a → SameD h h H' H4 → P y → Z (.str (mkS y)) H4) → SetR j (.int (lo + i)) (fun s => te s H' Z) σ)
    (hd : ∀ D H' (ns : List (List Nat)), HatB K H' h a → SameD h h H1 H' → H1 D = none → H' D = some (.lst ((ns.map mkS).map V.str)) → ns.length = n → (∀ x ∈ ns, P x) → Q (.ref D) H') : LcR (Itr lo n) (gName j) tYes te [j] σ Q H1 := fun D hD => by
  have nD := hat.ne hD
  refine lc_range (fun i H' => (HatB K H' h a ∧ Scr K H' D h a) ∧ SameD h h H1 H' ∧ ∃ xs : List (List Nat), H' D = some (.lst ((xs.map mkS).map V.str)) ∧ xs.length = i ∧ ∀ x ∈ xs, P x) ⟨hat.put (Scr.of hat hD) nD.1, (sameD_of sameR).mut hD, [], upd_same, rfl, fun x hx => by cases hx⟩ ?_ ?_
  · rintro i H' hi ⟨⟨hH', sc⟩, sd, xs, hDx, xl, xb⟩
    refine ⟨wipe1' _, tYes_of ?_⟩
    rw [wipe1]
    refine hs i H' _ hi hH' sd fun y H4 h4 s4 py => ?_
    have hD4 := s4 _ _ nD.1 nD.1 hDx
    refine ⟨_, hD4, Nat.lt_of_lt_of_le (show _ < 1001 by rw [List.length_map, List.length_map]; omega) (by decide), h4.put (sc.d s4) nD.1, (sd.tr s4).mut hD, xs ++ [y], by rw [upd_same]; simp, by simp [xl], fun x hx => ?_⟩
    rcases List.mem_append.mp hx with hx | hx
    · exact xb x hx
    · rw [List.mem_singleton.mp hx]
      exact py
  · rintro H' ⟨⟨hH', sc⟩, sd, xs, hDx, xl, xb⟩
    exact hd D H' xs hH' sd hD hDx xl xb
theorem len_tot (L : List (List Nat)) : L.length ≤ tot L := by unfold tot; omega
theorem cat_join {K : PySem.W.Frag} {H : Hp} {Q : VK} {a b : Addr} {L M : List (List Nat)} (ha : H a = some (.lst ((L.map mkS).map V.str))) (hb : H b = some (.lst ((M.map mkS).map V.str))) (t : tot L + tot M ≤ 50000) (q : ∀ H', Same H H' → Q (.str (mkS (joinL [10] (L ++ M)))) H') :
    rCat (.ref a) (.ref b) H fun y H2 => rJoinN K (.str (Str.ofString "\n")) [y] H2 Q := by
  have l1 := len_tot L
  have l2 := len_tot M
  refine a_cat ha hb (by simp only [List.length_map]; omega) fun p H' s n e => ?_
  refine r_joinN (ys := (L ++ M).map mkS) (sqL_at (by rw [e, List.map_append, List.map_append])) ?_ ?_
  · rw [len_mkS, List.length_map, show (Str.ofString "\n").length = 1 by decide +kernel, Nat.mul_one]
    show tot (L ++ M) ≤ _
    rw [tot_app]
    omega
  · rw [join_mkS]
    exact q _ s
theorem cutT (L : List (List Nat)) (k : Nat) : cutV ((L.map mkS).map V.str) none (some (k : Int)) = ((L.take k).map mkS).map V.str := by rw [cutV_take, List.map_take, List.map_take]
theorem cutD (L : List (List Nat)) (k : Nat) : cutV ((L.map mkS).map V.str) (some (k : Int)) none = ((L.drop k).map mkS).map V.str := by rw [cutV_drop, List.map_drop, List.map_drop]
def spChg (K : PySem.W.Frag) : Sp := fun vs H Q _ => ∃ (h a : Addr) (l : List Nat), vs = [.ref h, .str (mkS l)] ∧ HatB K H h a ∧ l.length ≤ 5000 ∧ ∀ l' H', l'.length ≤ 2 * l.length + 500 → HatB K H' h a → SameD h h H H' → Q (.str (mkS l')) H'
theorem ok_law_changed {P : Program} {w : World} {K : PySem.W.Frag} {mg : Str → Option Value} {base : Heap} (T : Tx K mg) : C8.Cal P w K mg base 2 "_law_changed" (spChg K) [] := by
  have G_law_drawn := ok_law_drawn (P := P) (w := w) (base := base) T
  have G_law_line := ok_law_line (P := P) (w := w) (base := base) T
  have G_law_grouped := ok_law_grouped (P := P) (w := w) (base := base) T
  refine cal_of (d := d_law_changed) (x := "_law_changed") (fn_law_changed T) rfl rfl (fg_law_changed T) sc_law_changed (fun _ _ _ _ _ _ us hl => match us, hl with | [_, _], _ => rfl) (fun vs H Q E h => ?_) (fun cdv A outer s H vs Q E hr h => ?_)
  · obtain ⟨h, a, l, rfl, hat, hl, k⟩ := h
    rfl
  obtain ⟨h, a, l, rfl, hat, hl, k⟩ := h
  refine ⟨_, (pss_cons (ps_par (i := 2) (j := 3) (by rfl) sc_law_changed.nd rfl rfl (by decide) rfl rfl (pa_cons (C8.pe_c G_law_drawn hr (by decide) (by rfl) (pa_cons (pv 0) (pa_cons (pe_op op_add (pe_callB cq_lenS (by rfl) (fn_len T) bb_len (pa_cons (pv 1) pa_nil)) pe_int) pa_nil))) (pa_cons (C8.pe_c G_law_drawn hr (by decide) (by rfl) (pa_cons (pv 0) (pa_cons pe_int pa_nil))) pa_nil)) (by rfl))
      (pss_cons (ps_setLc (i := 5) (own := [("_law_k", 4)]) (by rfl) sc_law_changed.nd rfl rfl (sw_true rfl rfl rfl (by decide +kernel)) (pi_range1 (by rfl) (fn_range T) (pa_cons (pe_callB cq_lenS (by rfl) (fn_len T) bb_len (pa_cons (pv 1) pa_nil)) pa_nil)) (blkOk_by (own := [("_law_k", 4)]) (N := ["_law_state", "_law_text", "_law_at", "_law_branch", "_law_k", "_law_figures", "_law_character", "_law_lines", "_law_row", "_law_extra", "_law_some"]) (sc := defScope s_law_changed) (by decide +kernel)) (fun _ _ _ _ _ => (pg_name (i := 4) sc_law_changed.nd rfl (Or.inl rfl))) (fun _ _ _ _ _ => by exact (pts_one (pt_chain op_leS op_leS pe_str (pe_ix ix_str (pv 1) (pv 4) (fun _ _ => rfl)) pe_str))) (fun _ _ _ _ _ => (pv 4)))
      (pss_cons (ps_if (pt_cmpR op_eqI (pv 3) pe_int (nomark _)) (pss_cons (ps_set (i := 2) sc_law_changed.nd rfl (Or.inl rfl) (pe_ifExp (pt_cmpR (op_neD hr.units) (pv 5) (pe_lst pa_nil) (nomark _)) (pe_ix ix_list (pv 5) (C8.pe_c G_law_drawn hr (by decide) (by rfl) (pa_cons (pv 0) (pa_cons (pe_callB cq_len (by rfl) (fn_len T) bb_len (pa_cons (pv 5) pa_nil)) pa_nil))) (fun _ _ => rfl)) pe_int))
      (pss_one (ps_ret (pe_op op_addS (pe_op op_addS (pe_slice sl_str (pv 1) po_none (po_some (pv 2))) pe_str) (pe_slice sl_str (pv 1) (po_some (pe_op op_add (pv 2) pe_int)) po_none))))) pss_nil)
      (pss_cons (ps_set (i := 6) sc_law_changed.nd rfl (Or.inl rfl) (pe_ix ix_str pe_str (C8.pe_c G_law_drawn hr (by decide) (by rfl) (pa_cons (pv 0) (pa_cons pe_int pa_nil))) (fun _ _ => rfl)))
      (pss_cons (ps_set (i := 7) sc_law_changed.nd rfl (Or.inl rfl) (pe_splitN (pv 1) pe_str))
      (pss_cons (ps_set (i := 8) sc_law_changed.nd rfl (Or.inl rfl) (C8.pe_c G_law_drawn hr (by decide) (by rfl) (pa_cons (pv 0) (pa_cons (pe_callB cq_len (by rfl) (fn_len T) bb_len (pa_cons (pv 7) pa_nil)) pa_nil))))
      (pss_cons (ps_set (i := 9) sc_law_changed.nd rfl (Or.inl rfl) (C8.pe_c G_law_line hr (by decide) (by rfl) (pa_cons (pe_lc (own := [("_law_k", 4)]) (by rfl) sc_law_changed.nd (pi_range1 (by rfl) (fn_range T) (pa_cons pe_int pa_nil)) (blkOk_by (own := [("_law_k", 4)]) (N := ["_law_state", "_law_text", "_law_at", "_law_branch", "_law_k", "_law_figures", "_law_character", "_law_lines", "_law_row", "_law_extra", "_law_some"]) (sc := defScope s_law_changed) (by decide +kernel)) (fun _ _ _ _ _ => (pg_name (i := 4) sc_law_changed.nd rfl (Or.inl rfl))) (fun _ _ _ _ _ => pts_nil) (fun _ _ _ _ _ => by exact (C8.pe_c G_law_grouped hr (by decide) (by rfl) (pa_cons (C8.pe_c G_law_drawn hr (by decide) (by rfl) (pa_cons (pv 0) (pa_cons (pe_op op_pow pe_int pe_int) pa_nil))) pa_nil)))) pa_nil)))
      (pss_cons (ps_set (i := 10) sc_law_changed.nd rfl (Or.inl rfl) (pe_lst (pa_cons (pe_op op_addS (pe_op op_addS (pe_slice sl_str (pv 1) po_none (po_some (pv 2))) (pv 6)) (pe_slice sl_str (pv 1) (po_some (pv 2)) po_none)) (pa_cons (pe_op op_addS (pe_op op_addS (pe_slice sl_str (pv 1) po_none (po_some (pv 2))) (pv 6)) (pe_slice sl_str (pv 1) (po_some (pe_op op_add (pv 2) pe_int)) po_none)) (pa_cons (pe_op op_addS (pe_slice sl_str (pv 1) po_none (po_some (pv 2))) (pe_slice sl_str (pv 1) (po_some (pe_op op_add (pv 2) pe_int)) po_none)) (pa_cons (pv 1) pa_nil))))))
      (pss_cons (ps_set (i := 10) sc_law_changed.nd rfl (Or.inl rfl) (pe_op op_cat (pv 10) (pe_lst (pa_cons (pe_joinN pe_str (pe_op op_cat (pe_slice sl_list (pv 7) po_none (po_some (pv 8))) (pe_slice sl_list (pv 7) (po_some (pe_op op_add (pv 8) pe_int)) po_none))) (pa_cons (pe_joinN pe_str (pe_op op_cat (pe_slice sl_list (pv 7) po_none (po_some (pe_op op_add (pv 8) pe_int))) (pe_slice sl_list (pv 7) (po_some (pv 8)) po_none))) pa_nil)))))
      (pss_cons (ps_expr (pe_bm PySem.F.plainAttrs_list PySem.F.slot_list_append PySem.F.type_list_append mt_append (pv 10) (pa_cons (pe_joinN pe_str (pe_op op_cat (pe_op op_cat (pe_slice sl_list (pv 7) po_none (po_some (pe_op op_add (pv 8) pe_int))) (pe_lst (pa_cons (pv 9) pa_nil))) (pe_slice sl_list (pv 7) (po_some (pe_op op_add (pv 8) pe_int)) po_none))) pa_nil)))
      (pss_one (ps_ret (pe_ix ix_list (pv 10) (pv 3) (fun _ _ => rfl)))))))))))))), ?_⟩
  try dsimp only [cxOf, Cx.nox, Cx.wish]
  repeat rw [st_cons]
  repeat rw [st_none]
  try rw [st_nn]
  have lim := sizeBig
  have l0 : (mkS l).length ≤ sizeLine := by rw [mkS_len]; omega
  have ln := mkS_len l
  walk_at "go"
  rename_i r H1 r0 r1 hat1 sd1 b H2 b0 b1 hat2 sd2
  refine lcF_range (fun i => isD (l.getD i 0)) (fun i => (i : Int)) (by omega) (fun i H' Z hi s1 z => ?_) (fun i H' Z hi q s1 z => ?_) fun D H3 hD s3 hl3 => ?_
  · have hi' : i < l.length := by omega
    walk_at "rd"
    refine r_ixS (j := i) (c := l.getD i 0) (by omega) l0 (by rw [tl_mkS, List.getD_eq_getElem?_getD, List.getElem?_eq_getElem hi']; rfl) ?_
    walk_at "rd"
    rw [(leD (l.getD i 0)).1]
    have zz := z _ sameR
    unfold isD at zz
    by_cases h : 48 ≤ l.getD i 0
    · rw [decide_eq_true h] at zz ⊢
      rw [if_pos rfl]
      walk_at "rd"
      rw [(leD (l.getD i 0)).2]
      exact zz
    · rw [decide_eq_false h] at zz ⊢
      rw [if_neg (by simp)]
      exact ⟨_, rfl, zz⟩
  · walk_at "rd"
    rw [Int.zero_add]
    exact z _ sameR
  obtain ⟨xs, hxs, bd⟩ : ∃ xs : List Int, H3 D = some (.lst (xs.map V.int)) ∧ (∀ x ∈ xs, 0 ≤ x ∧ x < l.length) ∧ xs.length ≤ 5000 := ⟨_, hl3, fun x hx => by
    obtain ⟨i, hi, rfl⟩ := List.mem_map.mp hx
    have := List.mem_range.mp (List.mem_filter.mp hi).1
    omega, by
    rw [List.length_map]
    exact Nat.le_trans (List.length_filter_le _ _) (by rw [List.length_range]; omega)⟩
  obtain ⟨bd, xl⟩ := bd
  clear hl3
  have hat3 := hatB_s s3 hat2
  have sd3 : SameD h h H H3 := (sd1.tr sd2).tr (sameD_of s3)
  have nD : D ≠ h := (hat2.ne hD).1
  clear s3 hD hat1 hat2 sd1 sd2 H1 H2
  have cm : Str.ofString "," = mkS [44] := ext_tl (by decide +kernel)
  obtain ⟨n, rfl⟩ : ∃ n : Nat, r = (n : Int) := ⟨r.toNat, by omega⟩
  have tk : ∀ n : Nat, (l.take n).length ≤ l.length := fun n => by rw [List.length_take]; omega
  have dk : ∀ n : Nat, (l.drop n).length ≤ l.length := fun n => by rw [List.length_drop]; omega
  walk_at "go"
  refine i2 (fun c => ?_) (fun c => ?_)
  · have main : ∀ (x : Int) (H' : Hp), 0 ≤ x → HatB K H' h a → SameD h h H H' → rAddS (.str (cutS (mkS l) none (some x))) (.str (Str.ofString ",")) H' fun x1 H1 => tSl rSlS (tVar 1) (tPart (tOp (rI0 fun i j => V.int (i + j)) (tVar 2) (tC (.int 1)))) tNoPart
        [some (.ref h), some (.str (mkS l)), some (.int x), some (.int b), none, some (.ref D), none, none, none, none, none] H1 fun y H2 => rAddS x1 y H2 Q := by
      intro x H' x0 hat' sd'
      obtain ⟨n, rfl⟩ : ∃ n : Nat, x = (n : Int) := ⟨x.toNat, by omega⟩
      have a1 := tk n
      have a2 := dk (n + 1)
      rw [cutS_take, cm]
      refine r_addS2 (by rw [mkS_len, mkS_len]; show _ + 1 ≤ _; omega) ?_
      rw [mkS_app]
      walk_at "rd"
      rw [show ((n : Nat) : Int) + 1 = ((n + 1 : Nat) : Int) by omega, cutS_drop]
      refine r_addS2 (by rw [mkS_len, mkS_len, List.length_append]; show _ + 1 + _ ≤ _; omega) ?_
      rw [mkS_app]
      exact k _ _ (by rw [List.length_append, List.length_append]; show _ + 1 + _ ≤ _; omega) hat' sd'
    walk_at "go"
    rename_i pe H4 s4 n4 e4
    refine a_neLI (ns := xs) (ms := []) (sqL_at (s4 _ _ hxs)) (sqL_at e4) ?_
    walk_at "rd"
    have hat4 := hatB_s s4 hat3
    have sd4 := sd3.tr (sameD_of s4)
    by_cases cx : xs = []
    · refine iN' cx ?_
      walk_at "rd"
      exact main 0 _ (by decide) hat4 sd4
    · refine iY' cx ?_
      have xp : 0 < xs.length := List.length_pos_iff.mpr cx
      walk_at "rd"
      refine r_lenL (sqL_at (s4 _ _ hxs)) ?_
      rw [List.length_map]
      walk_at "rd"
      refine use_drw hat4 (by omega) (by omega) fun q H5 q0 q1 hat5 sd5 => ?_
      obtain ⟨j, rfl⟩ : ∃ j : Nat, q = (j : Int) := ⟨q.toNat, by omega⟩
      have hj : j < xs.length := by omega
      have hD5 : H5 D = some (.lst (xs.map V.int)) := by
        exact sd5 _ _ nD nD (s4 _ _ hxs)
      refine r_ixL (sqL_at hD5) (Int.ofNat_inj.mpr rfl) (by rw [List.getElem?_map, List.getElem?_eq_getElem hj]; rfl) ?_
      walk_at "rd"
      exact main _ _ (bd _ (List.getElem_mem hj)).1 hat5 (sd4.tr sd5)
  · clear hxs bd xl nD
    walk_at "go"
    rename_i u H4 u0 u1 hat4 sd4
    obtain ⟨j, rfl⟩ : ∃ j : Nat, u = (j : Int) := ⟨u.toNat, by omega⟩
    have l15 : (codes " \n0123456789,-d").length = 15 := by decide +kernel
    have hj : j < (codes " \n0123456789,-d").length := by omega
    refine r_ixS (j := j) rfl (Nat.le_of_ble_eq_true rfl) (List.getElem?_eq_getElem hj) ?_
    generalize (codes " \n0123456789,-d")[j] = ch
    have sd04 := sd3.tr sd4
    clear sd3 sd4 hat3 l15 hj
    walk_at "go"
    refine r_splitN (by decide +kernel) (by rw [mkS_len]; omega) fun p7 n7 => ?_
    rw [split_lns]
    have s5 := same_new n7 (o := .lst (((lns l).map mkS).map V.str))
    have e5 : upd H4 p7 (.lst (((lns l).map mkS).map V.str)) p7 = some (.lst (((lns l).map mkS).map V.str)) := upd_same
    have n7h := (hat4.ne n7).1
    generalize upd H4 p7 (.lst (((lns l).map mkS).map V.str)) = H5 at s5 e5 ⊢
    have hat5 := hatB_s s5 hat4
    have sd05 := sd04.tr (sameD_of s5)
    clear s5 n7 hat4 sd04
    have lpos : 0 < (lns l).length := by obtain ⟨x, y, e⟩ := lns_ne l; rw [e]; simp
    have many := lns_many l
    have ln7 : (((lns l).map mkS).map V.str).length = (lns l).length := by simp
    walk_at "go"
    rename_i v H6 v0 v1 hat6 sd6
    obtain ⟨row, rfl⟩ : ∃ row : Nat, v = (row : Int) := ⟨v.toNat, by omega⟩
    have e6 := sd6 _ _ n7h n7h e5
    have sd06 := sd05.tr sd6
    clear hat5 e5 sd6 sd05
    walk_at "go"
    refine lcB_txts (fun y => y.length ≤ 80) hat6 (by decide) (fun i H' Z hi hat' sd' z => ?_) fun D9 H7 ws hat7 sd7 n9 e9 wl wb => ?_
    · walk_at "go"
      rename_i q H8 q0 q1 hat8 sd8
      refine use_grp q0 (by omega) fun H9 s9 => z _ _ (hatB_s s9 hat8) (sd8.tr (sameD_of s9)) (Nat.le_trans (wd_len q0 (by omega)) (by decide))
    obtain ⟨w1, w2, w3, w4, w5, rfl⟩ : ∃ w1 w2 w3 w4 w5, ws = [w1, w2, w3, w4, w5] := by
      match ws, wl with
      | [w1, w2, w3, w4, w5], _ => exact ⟨_, _, _, _, _, rfl⟩
    have b1 := wb w1 (by simp)
    have b2 := wb w2 (by simp)
    have b3 := wb w3 (by simp)
    have b4 := wb w4 (by simp)
    have b5 := wb w5 (by simp)
    walk_at "rd"
    refine use_lline (sqL_at e9) ⟨b1, b2, b3, b4, b5⟩ fun H8 s8 => ?_
    have exl : (lnL w1 w2 w3 w4 w5).length ≤ 400 := by rw [lnL_len]; omega
    generalize lnL w1 w2 w3 w4 w5 = ex at exl ⊢
    have hat8 := hatB_s s8 hat7
    have e8 := s8 _ _ (sd7 _ _ n7h n7h e6)
    have sd08 := (sd06.tr sd7).tr (sameD_of s8)
    clear wb wl e9 b1 b2 b3 b4 b5 n9 hat7 s8 sd7 sd06 e6 hat6
    have a1 := tk n
    have a2 := dk n
    have a3 := dk (n + 1)
    have en : ((n : Nat) : Int) + 1 = ((n + 1 : Nat) : Int) := by omega
    walk_at "go"
    rw [show sg ch = mkS [ch] from rfl, cutS_take]
    refine r_addS2 (by rw [mkS_len, mkS_len]; show _ + 1 ≤ _; omega) ?_
    rw [mkS_app]
    walk_at "rd"
    rw [cutS_drop]
    refine r_addS2 (by rw [mkS_len, mkS_len, List.length_append]; show _ + 1 + _ ≤ _; omega) ?_
    rw [mkS_app]
    walk_at "rd"
    rw [cutS_take]
    refine r_addS2 (by rw [mkS_len, mkS_len]; show _ + 1 ≤ _; omega) ?_
    rw [mkS_app]
    walk_at "rd"
    rw [en, cutS_drop]
    refine r_addS2 (by rw [mkS_len, mkS_len, List.length_append]; show _ + 1 + _ ≤ _; omega) ?_
    rw [mkS_app]
    walk_at "rd"
    rw [cutS_take, en, cutS_drop]
    refine r_addS2 (by rw [mkS_len, mkS_len]; omega) ?_
    rw [mkS_app]
    walk_at "go"
    rename_i ps Ha sa na ea p1 Hb sb nb eb p2 Hc sc nc ec
    have er : ((row : Nat) : Int) + 1 = ((row + 1 : Nat) : Int) := by omega
    have tL := tot_lns l
    have t1 := tot_take (lns l) row
    have t2 := tot_take (lns l) (row + 1)
    have t3 := tot_drop (lns l) row
    have t4 := tot_drop (lns l) (row + 1)
    rw [cutT] at eb
    rw [er, cutD] at ec
    refine cat_join (sc _ _ eb) ec (by omega) fun Hd sd => ?_
    have e8d : Hd p7 = some (.lst (((lns l).map mkS).map V.str)) := sd _ _ (sc _ _ (sb _ _ (sa _ _ e8)))
    have ead := sd _ _ (sc _ _ (sb _ _ ea))
    have hatd := hatB_s sd (hatB_s sc (hatB_s sb (hatB_s sa hat8)))
    have sd0d := sd08.tr (sameD_of (sameT sa (sameT sb (sameT sc sd))))
    have nps : ps ≠ h := (hat8.ne na).1
    clear sa ea sb nb eb sc nc ec sd
    walk_at "go"
    rename_i p1 Hb sb nb eb p2 Hc sc nc ec
    rw [er, cutT] at eb
    rw [cutD] at ec
    refine cat_join (sc _ _ eb) ec (by omega) fun He se => ?_
    have e8e : He p7 = some (.lst (((lns l).map mkS).map V.str)) := se _ _ (sc _ _ (sb _ _ e8d))
    have eae := se _ _ (sc _ _ (sb _ _ ead))
    have sde := sameT sb (sameT sc se)
    clear sb nb eb sc nc ec se e8d ead
    walk_at "go"
    rename_i p3 Hf sf nf ef px Hg sg ng eg p4 Hi si ni ei p5 Hj sj nj ej
    have nx : Hd px = none := none_of_same (sameT sde sf) ng
    have sdj : Same Hd Hj := sameT sde (sameT sf (sameT sg (sameT si sj)))
    have egj := sj _ _ (si _ _ eg)
    have e8j : Hj p7 = some (.lst (((lns l).map mkS).map V.str)) := sj _ _ (si _ _ (sg _ _ (sf _ _ e8e)))
    rw [er, cutT] at ei
    have eij := sj _ _ ei
    have lt := len_tot ((lns l).take (row + 1))
    clear sf nf ef sg ng eg si ni ei sj nj sde eae e8e
    refine a_cat eij ej (by simp only [List.length_map, List.length_cons, List.length_nil]; omega) fun p6 Hk sk nk ek => ?_
    rw [show ((((lns l).take (row + 1)).map mkS).map V.str) ++ [V.str (mkS ex)] = (((((lns l).take (row + 1)) ++ [ex]).map mkS).map V.str) by simp] at ek
    have e8k := sk _ _ e8j
    have egk := sk _ _ egj
    clear eij ej egj e8j
    walk_at "go"
    rename_i p8 Hl sl nl el
    rw [er, cutD] at el
    have te : tot [ex] = ex.length + 1 := by simp [tot]
    refine cat_join (sl _ _ ek) el (by rw [tot_app, te]; omega) fun Hm sm => ?_
    have egm := sm _ _ (sl _ _ egk)
    have sdm : Same Hd Hm := sameT sdj (sameT sk (sameT sl sm))
    clear sk nk ek e8k egk sl nl el sdj sm
    walk_at "rd"
    refine r_append egm (by simp) ?_
    have j1 := joinL_tot ((lns l).take row ++ (lns l).drop (row + 1))
    have j2 := joinL_tot ((lns l).take (row + 1) ++ (lns l).drop row)
    have j3 := joinL_tot ((lns l).take (row + 1) ++ [ex] ++ (lns l).drop (row + 1))
    rw [tot_app] at j1 j2 j3
    rw [tot_app, te] at j3
    have px' := (hatd.ne nx).1
    have sc := (Scr.of hatd nx).d (sameD_of sdm : SameD h h Hd Hm)
    have hatF : ∀ o, HatB K (upd Hm px o) h a := fun o => ((hatB_s sdm hatd).put sc px').1
    have sdF : ∀ o, SameD h h H (upd Hm px o) := fun o => sd0d.tr ((sameD_of sdm : SameD h h Hd Hm).mut nx)
    walk_at "rd"
    obtain rfl | rfl | rfl | rfl | rfl | rfl | rfl : b = 0 ∨ b = 1 ∨ b = 2 ∨ b = 3 ∨ b = 4 ∨ b = 5 ∨ b = 6 := by omega
    · exact r_ixL (sqL_at upd_same) (j := 0) rfl rfl (k _ _ (by simp only [List.length_append, List.length_cons, List.length_nil]; omega) (hatF _) (sdF _))
    · exact r_ixL (sqL_at upd_same) (j := 1) rfl rfl (k _ _ (by simp only [List.length_append, List.length_cons, List.length_nil]; omega) (hatF _) (sdF _))
    · exact r_ixL (sqL_at upd_same) (j := 2) rfl rfl (k _ _ (by simp only [List.length_append, List.length_cons, List.length_nil]; omega) (hatF _) (sdF _))
    · exact r_ixL (sqL_at upd_same) (j := 3) rfl rfl (k _ _ (by omega) (hatF _) (sdF _))
    · exact r_ixL (sqL_at upd_same) (j := 4) rfl rfl (k _ _ (by omega) (hatF _) (sdF _))
    · exact r_ixL (sqL_at upd_same) (j := 5) rfl rfl (k _ _ (by omega) (hatF _) (sdF _))
    · exact r_ixL (sqL_at upd_same) (j := 6) rfl rfl (k _ _ (by omega) (hatF _) (sdF _))
theorem use_chg {K : PySem.W.Frag} {H : Hp} {Q : VK} {E : XK} {h a : Addr} {l : List Nat} (hat : HatB K H h a) (hl : l.length ≤ 5000) (k : ∀ l' H', l'.length ≤ 2 * l.length + 500 → HatB K H' h a → SameD h h H H' → Q (.str (mkS l')) H') : spChg K [.ref h, .str (mkS l)] H Q E := ⟨h, a, l, rfl, hat, hl, k⟩

end G57
end
section
set_option maxRecDepth 100000
set_option maxHeartbeats 4000000
namespace G57
open PySem PySem.Spec PyProof.Rows L2
/-! the walk's small steps: "rd" reads on as far as it can -/
local macro_rules | `(tactic| walk_at "fact") => `(tactic| fail)
local macro_rules | `(tactic| walk_at "rd1") => `(tactic| with_reducible first
  | (refine v_id ?_; first | refine r_var_0 ?_ | refine r_var_1 ?_ | refine r_var_2 ?_ | refine r_var_3 ?_ | refine r_var_4 ?_ | refine r_var_5 ?_ | refine r_var_6 ?_ | refine r_var_7 ?_ | refine r_var_8 ?_ | refine r_var_9 ?_ | refine r_var_10 ?_ | refine r_var_11 ?_ | refine r_var_12 ?_ | refine r_var_13 ?_ | refine r_var_14 ?_ | refine r_var_15 ?_ | refine r_var_16 ?_ | refine r_var_17 ?_ | refine r_var_18 ?_ | refine r_var_19 ?_ | refine r_var_20 ?_ | refine r_var_21 ?_ | refine r_var_22 ?_ | refine r_var_23 ?_ | refine r_var_24 ?_ | refine r_var_25 ?_ | refine r_var_26 ?_ | refine r_var_27 ?_ | refine r_var rfl ?_)
  | (refine s_id ?_; first | refine r_set_0 ?_ | refine r_set_1 ?_ | refine r_set_2 ?_ | refine r_set_3 ?_ | refine r_set_4 ?_ | refine r_set_5 ?_ | refine r_set_6 ?_ | refine r_set_7 ?_ | refine r_set_8 ?_ | refine r_set_9 ?_ | refine r_set_10 ?_ | refine r_set_11 ?_ | refine r_set_12 ?_ | refine r_set_13 ?_ | refine r_set_14 ?_ | refine r_set_15 ?_ | refine r_set_16 ?_ | refine r_set_17 ?_ | refine r_set_18 ?_ | refine r_set_19 ?_ | refine r_set_20 ?_ | refine r_set_21 ?_ | refine r_set_22 ?_ | refine r_set_23 ?_ | refine r_set_24 ?_ | refine r_set_25 ?_ | refine r_set_26 ?_ | refine r_set_27 ?_ | refine r_setU ?_)
  | refine r_c ?_
  | refine r_op ?_
  | refine r_I0 ?_
  | refine r_seq ?_
  | refine r_asg ?_
  | refine r_fld ?_
  | refine r_nil ?_
  | refine r_cons ?_
  | refine r_cb ?_
  | refine r_max ?_
  | refine r_min ?_
  | refine r_ret ?_
  | refine r_met ?_
  | refine r_call ?_
  | refine r_B ?_
  | refine r_test ?_
  | refine r_b' ?_
  | refine r_ifS ?_
  | refine r_if ?_
  | refine r_par ?_
  | refine r_par2 ?_
  | refine r_drop ?_
  | refine r_next ?_
  | refine r_make ?_
  | refine r_sfld ?_
  | refine r_int1 ?_
  | refine r_intb ?_
  | refine r_and ?_
  | refine r_or ?_
  | refine r_not ?_
  | refine r_chain ?_
  | refine r_isN ?_
  | refine r_notN ?_
  | refine r_un ?_
  | refine r_U ?_
  | refine r_par3 ?_
  | refine r_par33 ?_
  | refine r_tup ?_
  | refine r_lst ?_
  | refine r_prop ?_
  | refine r_bm ?_
  | refine r_bm0 ?_
  | refine r_andV ?_
  | refine r_orV ?_
  | refine r_notV ?_
  | refine r_asgG ?_
  | refine r_gname ?_
  | refine r_gcons ?_
  | refine r_gnil ?_
  | refine r_rng1 ?_
  | refine r_rng2 ?_
  | refine r_for ?_
  | refine r_lc1 ?_
  | refine r_lc2 ?_
  | refine r_lc3 ?_
  | refine r_lc ?_
  | refine r_while ?_
  | refine r_rev ?_
  | refine r_sl ?_
  | refine r_augS ?_
  | refine r_iL ?_
  | refine r_iT ?_
  | refine r_iE ?_
  | refine r_ipI ?_
  | refine r_aug rfl ?_
  | refine r_cval ?_
  | refine r_turnN ?_
  | refine iT ?_
  | refine iNT ?_
  | refine iNF ?_
  | refine iOF ?_
  | refine iF ?_
  | refine r_part ?_
  | refine r_pi ?_
  | refine r_gsub ?_
  | refine r_noPart ?_)
local macro_rules | `(tactic| walk_at "rd") => `(tactic| (repeat (first | walk_at "rd1" | walk_at "fact")))
local macro_rules | `(tactic| walk_at "plen") => `(tactic| (repeat (first | decide | refine putF_lt ?_)))
local macro_rules | `(tactic| walk_at "rs") => `(tactic| (repeat ((fail_if_success (with_reducible refine r_stop ?_)); (first | walk_at "rd1" | walk_at "fact"))))
def spA (A : Hp → V → V → Prop) : Sp := fun vs H Q _ => ∃ x y, vs = [x, y] ∧ A H x y ∧ ∀ H', Same H H' → Q (.bl true) H'
theorem ok_law_same_0 {P : Program} {w : World} {K : PySem.W.Frag} {mg : Str → Option Value} {base : Heap} (T : Tx K mg) {sp : Sp} (no : ∀ vs H Q E, ¬ sp vs H Q E) : C8.Cal P w K mg base 1 "_law_same" sp [] := cal_of (k := 0) (d := d_law_same) (x := "_law_same") (fn_law_same T) rfl rfl (fg_law_same T) sc_law_same (fun _ _ _ _ _ _ us hl => match us, hl with | [_, _], _ => rfl) (fun vs H Q E h => absurd h (no _ _ _ _)) (fun cdv A outer s H vs Q E hr h => absurd h (no _ _ _ _))
theorem ok_law_same_s {P : Program} {w : World} {K : PySem.W.Frag} {mg : Str → Option Value} {base : Heap} (T : Tx K mg) {A : Hp → V → V → Prop} (mono : ∀ H H' x y, A H x y → Same H H' → A H' x y) {kk : Nat} (hk : 0 ≤ kk) (G_law_same : C8.Cal P w K mg base kk "_law_same" (spA A) []) : C8.Cal P w K mg base (kk + 1) "_law_same" (spA (AlkS K A)) [] := by
  refine cal_of (d := d_law_same) (x := "_law_same") (fn_law_same T) rfl rfl (fg_law_same T) sc_law_same (fun _ _ _ _ _ _ us hl => match us, hl with | [_, _], _ => rfl) (fun vs H Q E h => ?_) (fun cdv A outer s H vs Q E hr h => ?_)
  · obtain ⟨x, y, rfl, hA, k⟩ := h
    rfl
  obtain ⟨x, y, rfl, hA, k⟩ := h
  refine ⟨_, (pss_cons (ps_if (pt_val (pe_callB call_isiT (by rfl) (fn_isinstance T) bb_isinstance (pa_cons (pv 1) (pa_cons (pe_tup (pa_cons (pe_bltn (v := .ty "tuple") rfl (fn_tuple T) bb_tuple rfl) (pa_cons (pe_bltn (v := .ty "list") rfl (fn_list T) bb_list rfl) pa_nil))) pa_nil)))) (pss_cons (ps_if (PW.pt (pw_or (pt_not (pt_val (pe_callB call_isiT (by rfl) (fn_isinstance T) bb_isinstance (pa_cons (pv 0) (pa_cons (pe_tup (pa_cons (pe_bltn (v := .ty "tuple") rfl (fn_tuple T) bb_tuple rfl) (pa_cons (pe_bltn (v := .ty "list") rfl (fn_list T) bb_list rfl) pa_nil))) pa_nil))))) (pw_or1 (pt_cmpR op_ne (pe_callB call_isi (by rfl) (fn_isinstance T) bb_isinstance (pa_cons (pv 0) (pa_cons (pe_bltn (v := .ty "list") rfl (fn_list T) bb_list rfl) pa_nil))) (pe_callB call_isi (by rfl) (fn_isinstance T) bb_isinstance (pa_cons (pv 1) (pa_cons (pe_bltn (v := .ty "list") rfl (fn_list T) bb_list rfl) pa_nil))) (nomark _))))) (pss_one (ps_ret pe_bl)) pss_nil)
      (pss_cons (ps_if (pt_cmpR op_neI (pe_callB cq_len (by rfl) (fn_len T) bb_len (pa_cons (pv 0) pa_nil)) (pe_callB cq_len (by rfl) (fn_len T) bb_len (pa_cons (pv 1) pa_nil)) (nomark _)) (pss_one (ps_ret pe_bl)) pss_nil)
      (pss_one (ps_ret (pe_cmpR (op_eqD hr.units) (pe_lc (own := [("_law_k", 2)]) (by rfl) sc_law_same.nd (pi_range1 (by rfl) (fn_range T) (pa_cons (pe_callB cq_len (by rfl) (fn_len T) bb_len (pa_cons (pv 1) pa_nil)) pa_nil)) (blkOk_by (own := [("_law_k", 2)]) (N := ["_law_result", "_law_expected", "_law_k"]) (sc := defScope s_law_same) (by decide +kernel)) (fun _ _ _ _ _ => (pg_name (i := 2) sc_law_same.nd rfl (Or.inl rfl))) (fun _ _ _ _ _ => by exact (pts_one (pt_not (pt_val (C8.pe_c G_law_same hr (Nat.le_refl _) (by rfl) (pa_cons (pe_ix (ixK (K := K) rfl ix_any) (pv 0) (pv 2) (fun _ _ => rfl)) (pa_cons (pe_ix (ixK (K := K) rfl ix_any) (pv 1) (pv 2) (fun _ _ => rfl)) pa_nil))))))) (fun _ _ _ _ _ => by exact (pv 2))) (pe_lst pa_nil) (nomark _)))))) pss_nil)
      (pss_cons (ps_if (pt_cmpR op_ne (pe_callB call_isi (by rfl) (fn_isinstance T) bb_isinstance (pa_cons (pv 0) (pa_cons (pe_bltn (v := .ty "bool") rfl (fn_bool T) bb_bool rfl) pa_nil))) (pe_callB call_isi (by rfl) (fn_isinstance T) bb_isinstance (pa_cons (pv 1) (pa_cons (pe_bltn (v := .ty "bool") rfl (fn_bool T) bb_bool rfl) pa_nil))) (nomark _)) (pss_one (ps_ret pe_bl)) pss_nil)
      (pss_one (ps_ret (pe_and (pe_cmpR op_eq (pe_callB call_isi (by rfl) (fn_isinstance T) bb_isinstance (pa_cons (pv 0) (pa_cons (pe_bltn (v := .ty "int") rfl (fn_int T) bb_int rfl) pa_nil))) (pe_callB call_isi (by rfl) (fn_isinstance T) bb_isinstance (pa_cons (pv 1) (pa_cons (pe_bltn (v := .ty "int") rfl (fn_int T) bb_int rfl) pa_nil))) (nomark _)) (pe_one (pe_cmpR (op_eqD hr.units) (pv 0) (pv 1) (nomark _)))))))), ?_⟩
  try dsimp only [cxOf, Cx.nox, Cx.wish]
  repeat rw [st_cons]
  repeat rw [st_none]
  try rw [st_nn]
  rcases hA with ⟨rfl, hf⟩ | ⟨a, b, xs, ys, rfl, rfl, hs, hl, hl2, hk2⟩
  · cases hf with
    | int i =>
      walk_at "rd"
      refine r_nwT (Nat.le_of_ble_eq_true rfl) fun p hp => ?_
      have s1 := same_new hp (o := .tup [.ty "tuple", .ty "list"])
      walk_at "rd"
      refine r_isi2 (b1 := false) (b2 := false) upd_same tyx_int (by decide +kernel) (by decide +kernel) ?_
      walk_at "rd"
      refine r_isi (b := false) tyx_int (by decide +kernel) ?_
      walk_at "rd"
      refine r_isi (b := false) tyx_int (by decide +kernel) ?_
      walk_at "rd"
      refine r_neS rfl ?_
      walk_at "rd"
      refine iN' rfl ?_
      walk_at "rd"
      refine r_isi (b := true) tyx_int (by decide +kernel) ?_
      walk_at "rd"
      refine r_isi (b := true) tyx_int (by decide +kernel) ?_
      walk_at "rd"
      refine r_eqS rfl ?_
      walk_at "rd"
      refine iY rfl ?_
      walk_at "rd"
      refine r_eqSelf (.int _) (.int _) (by rfl) (by simp [PyData.eqv]) ?_
      exact k _ s1
    | non =>
      walk_at "rd"
      refine r_nwT (Nat.le_of_ble_eq_true rfl) fun p hp => ?_
      have s1 := same_new hp (o := .tup [.ty "tuple", .ty "list"])
      walk_at "rd"
      refine r_isi2 (b1 := false) (b2 := false) upd_same tyx_non (by decide +kernel) (by decide +kernel) ?_
      walk_at "rd"
      refine r_isi (b := false) tyx_non (by decide +kernel) ?_
      walk_at "rd"
      refine r_isi (b := false) tyx_non (by decide +kernel) ?_
      walk_at "rd"
      refine r_neS rfl ?_
      walk_at "rd"
      refine iN' rfl ?_
      walk_at "rd"
      refine r_isi (b := false) tyx_non (by decide +kernel) ?_
      walk_at "rd"
      refine r_isi (b := false) tyx_non (by decide +kernel) ?_
      walk_at "rd"
      refine r_eqS rfl ?_
      walk_at "rd"
      refine iY rfl ?_
      walk_at "rd"
      refine r_eqSelf .non .non (by rfl) (by simp [PyData.eqv]) ?_
      exact k _ s1
    | bl c =>
      walk_at "rd"
      refine r_nwT (Nat.le_of_ble_eq_true rfl) fun p hp => ?_
      have s1 := same_new hp (o := .tup [.ty "tuple", .ty "list"])
      walk_at "rd"
      refine r_isi2 (b1 := false) (b2 := false) upd_same tyx_bl (by decide +kernel) (by decide +kernel) ?_
      walk_at "rd"
      refine r_isi (b := true) tyx_bl (by decide +kernel) ?_
      walk_at "rd"
      refine r_isi (b := true) tyx_bl (by decide +kernel) ?_
      walk_at "rd"
      refine r_neS rfl ?_
      walk_at "rd"
      refine iN' rfl ?_
      walk_at "rd"
      refine r_isi (b := true) tyx_bl (by decide +kernel) ?_
      walk_at "rd"
      refine r_isi (b := true) tyx_bl (by decide +kernel) ?_
      walk_at "rd"
      refine r_eqS rfl ?_
      walk_at "rd"
      refine iY rfl ?_
      walk_at "rd"
      refine r_eqSelf (.bl _) (.bl _) (by rfl) (by simp [PyData.eqv]) ?_
      exact k _ s1
    | str c hc =>
      walk_at "rd"
      refine r_nwT (Nat.le_of_ble_eq_true rfl) fun p hp => ?_
      have s1 := same_new hp (o := .tup [.ty "tuple", .ty "list"])
      walk_at "rd"
      refine r_isi2 (b1 := false) (b2 := false) upd_same tyx_str (by decide +kernel) (by decide +kernel) ?_
      walk_at "rd"
      refine r_isi (b := false) tyx_str (by decide +kernel) ?_
      walk_at "rd"
      refine r_isi (b := false) tyx_str (by decide +kernel) ?_
      walk_at "rd"
      refine r_neS rfl ?_
      walk_at "rd"
      refine iN' rfl ?_
      walk_at "rd"
      refine r_isi (b := false) tyx_str (by decide +kernel) ?_
      walk_at "rd"
      refine r_isi (b := false) tyx_str (by decide +kernel) ?_
      walk_at "rd"
      refine r_eqS rfl ?_
      walk_at "rd"
      refine iY rfl ?_
      walk_at "rd"
      refine r_eqSelf (.str _) (.str _) hc (by simp [PyData.eqv]) ?_
      exact k _ s1
  · obtain ⟨t, hsa, hsb, b1, b2, kt, kl, kb⟩ : ∃ t, SqN K t H a xs ∧ SqN K t H b ys ∧ ∃ b1 b2, kitB t "tuple" = some b1 ∧ kitB t "list" = some b2 ∧ (b1 || b2) = true := by
      rcases hs with ⟨h1, h2⟩ | ⟨h1, h2⟩
      · exact ⟨"list", .inl ⟨rfl, h1⟩, .inl ⟨rfl, h2⟩, false, true, by decide +kernel, by decide +kernel, rfl⟩
      · exact ⟨"tuple", .inr ⟨rfl, h1⟩, .inr ⟨rfl, h2⟩, true, false, by decide +kernel, by decide +kernel, rfl⟩
    walk_at "rd"
    refine r_nwT (Nat.le_of_ble_eq_true rfl) fun p hp => ?_
    have s1 := same_new hp (o := .tup [.ty "tuple", .ty "list"])
    walk_at "rd"
    refine r_isi2 upd_same (hsb.mono s1).ty kt kl ?_
    rw [kb]
    walk_at "rd"
    refine r_nwT (Nat.le_of_ble_eq_true rfl) fun p2 hp2 => ?_
    have s2 := sameT s1 (same_new hp2 (o := .tup [.ty "tuple", .ty "list"]))
    walk_at "rd"
    refine r_isi2 upd_same (hsa.mono s2).ty kt kl ?_
    rw [kb]
    walk_at "rd"
    refine r_isi (hsa.mono s2).ty kl ?_
    walk_at "rd"
    refine r_isi (hsb.mono s2).ty kl ?_
    walk_at "rd"
    refine r_neS rfl ?_
    walk_at "rd"
    refine iN' rfl ?_
    walk_at "rd"
    refine r_lenN (hsa.mono s2) ?_
    walk_at "rd"
    refine r_lenN (hsb.mono s2) ?_
    walk_at "rd"
    refine iN' (by rw [hl]) ?_
    walk_at "rd"
    refine r_lenN (hsb.mono s2) ?_
    walk_at "rd"
    generalize upd (upd H p (.tup [.ty "tuple", .ty "list"])) p2 (.tup [.ty "tuple", .ty "list"]) = H2 at s2 ⊢
    refine ⟨_, rfl, by omega, by omega, fun D hD => ?_⟩
    refine lc_range (fun i H' => Same H2 H' ∧ H' D = some (.lst [])) ⟨same_new hD, upd_same⟩ ?_ ?_
    · rintro i H' hi ⟨s3, e3⟩
      refine ⟨rfl, ?_⟩
      have s03 := sameT s2 s3
      have ilt : i < ys.length := by omega
      walk_at "rd"
      refine r_ixN (hsa.mono s03) (Int.zero_add _) (List.getElem?_eq_getElem (show i < xs.length by omega)) ?_
      walk_at "rd"
      refine r_ixN (hsb.mono s03) (Int.zero_add _) (List.getElem?_eq_getElem ilt) ?_
      walk_at "rd"
      refine ⟨_, _, rfl, mono _ _ _ _ (hk2 i _ _ (List.getElem?_eq_getElem (show i < xs.length by omega)) (List.getElem?_eq_getElem ilt)) s03, fun H4 s4 => ?_⟩
      walk_at "rd"
      exact ⟨sameT s3 s4, s4 _ _ e3⟩
    · rintro H' ⟨s3, e3⟩
      walk_at "rd"
      refine r_nwL (Nat.le_of_ble_eq_true rfl) fun q hq => ?_
      refine r_eqSelf (d := .list []) (.lst (sqL_at ((same_new hq) _ _ e3)) .nil) (.lst (sqL_at upd_same) .nil) (by rfl) (by simp [PyData.eqv, PyData.eqvAll]) ?_
      exact k _ (sameT (sameT s2 s3) (same_new hq))
theorem ok_law_same {P : Program} {w : World} {K : PySem.W.Frag} {mg : Str → Option Value} {base : Heap} (T : Tx K mg) : ∀ n : Nat, C8.Cal P w K mg base (n + 2) "_law_same" (spA (AlkD K n)) []
  | 0 => ok_law_same_s T (A := fun _ _ _ => False) (fun _ _ _ _ z _ => z) (Nat.zero_le _) (ok_law_same_0 T fun vs H Q E h => by
    obtain ⟨_, _, _, z, _⟩ := h
    exact z)
  | n + 1 => ok_law_same_s T (A := AlkD K n) (AlkD.mono n) (Nat.zero_le _) (ok_law_same T n)
theorem use_samT {K : PySem.W.Frag} {H : Hp} {Q : VK} {E : XK} {n : Nat} {a b : Addr} {xs ys : List V} (h : SqT K H a xs) (k : SqT K H b ys) (l : xs.length ≤ 100000) (t : AlkL K n H xs ys) (q : ∀ H', Same H H' → Q (.bl true) H') : spA (AlkD K (n + 1)) [.ref a, .ref b] H Q E := ⟨_, _, rfl, alk_tup h k l t, q⟩

end G57
end
section
set_option maxRecDepth 100000
set_option maxHeartbeats 4000000
namespace G57
open PySem PySem.Spec PyProof.Rows L2
/-! the walk's small steps: "rd" reads on as far as it can -/
local macro_rules | `(tactic| walk_at "fact") => `(tactic| fail)
local macro_rules | `(tactic| walk_at "rd1") => `(tactic| with_reducible first
  | (refine v_id ?_; first | refine r_var_0 ?_ | refine r_var_1 ?_ | refine r_var_2 ?_ | refine r_var_3 ?_ | refine r_var_4 ?_ | refine r_var_5 ?_ | refine r_var_6 ?_ | refine r_var_7 ?_ | refine r_var_8 ?_ | refine r_var_9 ?_ | refine r_var_10 ?_ | refine r_var_11 ?_ | refine r_var_12 ?_ | refine r_var_13 ?_ | refine r_var_14 ?_ | refine r_var_15 ?_ | refine r_var_16 ?_ | refine r_var_17 ?_ | refine r_var_18 ?_ | refine r_var_19 ?_ | refine r_var_20 ?_ | refine r_var_21 ?_ | refine r_var_22 ?_ | refine r_var_23 ?_ | refine r_var_24 ?_ | refine r_var_25 ?_ | refine r_var_26 ?_ | refine r_var_27 ?_ | refine r_var rfl ?_)
  | (refine s_id ?_; first | refine r_set_0 ?_ | refine r_set_1 ?_ | refine r_set_2 ?_ | refine r_set_3 ?_ | refine r_set_4 ?_ | refine r_set_5 ?_ | refine r_set_6 ?_ | refine r_set_7 ?_ | refine r_set_8 ?_ | refine r_set_9 ?_ | refine r_set_10 ?_ | refine r_set_11 ?_ | refine r_set_12 ?_ | refine r_set_13 ?_ | refine r_set_14 ?_ | refine r_set_15 ?_ | refine r_set_16 ?_ | refine r_set_17 ?_ | refine r_set_18 ?_ | refine r_set_19 ?_ | refine r_set_20 ?_ | refine r_set_21 ?_ | refine r_set_22 ?_ | refine r_set_23 ?_ | refine r_set_24 ?_ | refine r_set_25 ?_ | refine r_set_26 ?_ | refine r_set_27 ?_ | refine r_setU ?_)
  | refine r_c ?_
  | refine r_op ?_
  | refine r_I0 ?_
  | refine r_seq ?_
  | refine r_asg ?_
  | refine r_fld ?_
  | refine r_nil ?_
  | refine r_cons ?_
  | refine r_cb ?_
  | refine r_max ?_
  | refine r_min ?_
  | refine r_ret ?_
  | refine r_met ?_
  | refine r_call ?_
  | refine r_B ?_
  | refine r_test ?_
  | refine r_b' ?_
  | refine r_ifS ?_
  | refine r_if ?_
  | refine r_par ?_
  | refine r_par2 ?_
  | refine r_drop ?_
  | refine r_next ?_
  | refine r_make ?_
  | refine r_sfld ?_
  | refine r_int1 ?_
  | refine r_intb ?_
  | refine r_and ?_
  | refine r_or ?_
  | refine r_not ?_
  | refine r_chain ?_
  | refine r_isN ?_
  | refine r_notN ?_
  | refine r_un ?_
  | refine r_U ?_
  | refine r_par3 ?_
  | refine r_par33 ?_
  | refine r_tup ?_
  | refine r_lst ?_
  | refine r_prop ?_
  | refine r_bm ?_
  | refine r_bm0 ?_
  | refine r_andV ?_
  | refine r_orV ?_
  | refine r_notV ?_
  | refine r_asgG ?_
  | refine r_gname ?_
  | refine r_gcons ?_
  | refine r_gnil ?_
  | refine r_rng1 ?_
  | refine r_rng2 ?_
  | refine r_for ?_
  | refine r_lc1 ?_
  | refine r_lc2 ?_
  | refine r_lc3 ?_
  | refine r_lc ?_
  | refine r_while ?_
  | refine r_rev ?_
  | refine r_sl ?_
  | refine r_augS ?_
  | refine r_iL ?_
  | refine r_iT ?_
  | refine r_iE ?_
  | refine r_ipI ?_
  | refine r_aug rfl ?_
  | refine r_cval ?_
  | refine r_turnN ?_
  | refine iT ?_
  | refine iNT ?_
  | refine iNF ?_
  | refine iOF ?_
  | refine iF ?_
  | refine r_part ?_
  | refine r_pi ?_
  | refine r_gsub ?_
  | refine r_noPart ?_)
local macro_rules | `(tactic| walk_at "rd") => `(tactic| (repeat (first | walk_at "rd1" | walk_at "fact")))
local macro_rules | `(tactic| walk_at "plen") => `(tactic| (repeat (first | decide | refine putF_lt ?_)))
local macro_rules | `(tactic| walk_at "rs") => `(tactic| (repeat ((fail_if_success (with_reducible refine r_stop ?_)); (first | walk_at "rd1" | walk_at "fact"))))
/-! finding a fact in the present heap by the way back; each rule is applied by its conclusion before its premises are sought -/
local macro_rules | `(tactic| walk_at "atx") => `(tactic| fail)
local macro_rules | `(tactic| walk_at "c_h") => `(tactic| first
  | with_reducible assumption
  | ((with_reducible apply hat_s); (with_reducible assumption); walk_at "c_h"))
local macro_rules | `(tactic| walk_at "c_n") => `(tactic| first
  | with_reducible assumption
  | ((with_reducible apply hat_ne); (with_reducible assumption); walk_at "c_h"))
local macro_rules | `(tactic| walk_at "c_o") => `(tactic| first
  | with_reducible assumption
  | with_reducible exact upd_same
  | ((with_reducible apply at_s); (with_reducible assumption); walk_at "c_o")
  | ((with_reducible apply atd_tup); (with_reducible assumption); walk_at "c_h"; walk_at "c_o")
  | ((with_reducible apply atd_ins); (with_reducible assumption); walk_at "c_h"; walk_at "c_o")
  | ((with_reducible apply atd_lst); (with_reducible assumption); walk_at "c_n"; walk_at "c_o")
  | ((with_reducible apply atx_tup); (with_reducible assumption); walk_at "c_o"; walk_at "c_o")
  | ((with_reducible apply atx_ins); (with_reducible assumption); walk_at "c_o"; walk_at "c_o")
  | ((with_reducible apply atx_ne); (with_reducible assumption); (with_reducible assumption); walk_at "c_o"))
local macro_rules | `(tactic| walk_at "c_q") => `(tactic| first
  | with_reducible assumption
  | ((with_reducible apply sqL_s); (with_reducible assumption); walk_at "c_q"))
local macro_rules | `(tactic| walk_at "c_t") => `(tactic| first
  | with_reducible assumption
  | ((with_reducible apply sqT_s); (with_reducible assumption); walk_at "c_t")
  | ((with_reducible apply sqT_d); (with_reducible assumption); walk_at "c_h"; walk_at "c_t")
  | ((with_reducible apply sqT_x); (with_reducible assumption); walk_at "c_o"; walk_at "c_t"))
local macro_rules | `(tactic| walk_at "c_p") => `(tactic| first
  | with_reducible assumption
  | ((with_reducible apply pairs_s); (with_reducible assumption); walk_at "c_p"))
local macro_rules | `(tactic| walk_at "at") => `(tactic| first
  | with_reducible assumption
  | with_reducible exact upd_same
  | walk_at "atx"
  | ((with_reducible apply sqL_at); walk_at "c_o")
  | ((with_reducible apply sqL_s); (with_reducible assumption); walk_at "c_q")
  | ((with_reducible apply sqT_at); walk_at "c_o")
  | ((with_reducible apply sqT_id); walk_at "c_t")
  | ((with_reducible apply hat_id); walk_at "c_h")
  | ((with_reducible apply pairs_id); walk_at "c_p")
  | ((with_reducible apply ne_id); walk_at "c_n")
  | ((with_reducible apply at_id); walk_at "c_o"))
/-! a length, an inequality -/
local macro_rules | `(tactic| walk_at "le") => `(tactic| first | exact Nat.le_of_ble_eq_true rfl | omega | (simp; done) | (simp; omega))
local macro_rules | `(tactic| walk_at "ar") => `(tactic| first | omega | exact ⟨by omega, by omega⟩ | exact .inl ⟨by omega, by omega⟩ | exact .inr ⟨by omega, by omega⟩ | exact .inr (by omega) | exact .inl (by omega) | exact ⟨by omega, by omega, by omega⟩ | decide)
/-! calls of the text's own defs, with letters for what they leave -/
local macro_rules | `(tactic| walk_at "use") => `(tactic| fail)
local macro_rules | `(tactic| walk_at "go1") => `(tactic| first
  | walk_at "rd1"
  | walk_at "fact"
  | walk_at "use"
  | with_reducible refine r_p6 ?_
  | with_reducible refine r_p8 ?_
  | with_reducible refine r_p9 ?_
  | with_reducible refine r_p10 ?_
  | with_reducible refine r_p12 ?_
  | with_reducible refine r_p14 ?_
  | with_reducible refine r_p15 ?_
  | with_reducible refine r_p17 ?_
  | with_reducible refine r_p18 ?_
  | ((with_reducible apply r_I); walk_at "ar")
  | ((with_reducible apply a_neNil); walk_at "at"; intro _ _)
  | ((with_reducible apply a_eqNil); walk_at "at"; intro _ _)
  | ((with_reducible apply a_nwT); walk_at "le"; intro _ _ _ _ _)
  | ((with_reducible apply a_nwL); walk_at "le"; intro _ _ _ _ _)
  | ((with_reducible apply r_ixL (j := 0)); walk_at "at"; rfl; rfl)
  | ((with_reducible apply r_ixL (j := 1)); walk_at "at"; rfl; rfl)
  | ((with_reducible apply r_ixL (j := 2)); walk_at "at"; rfl; rfl)
  | ((with_reducible apply r_ixL (j := 3)); walk_at "at"; rfl; rfl)
  | ((with_reducible apply r_ixT (j := 0)); walk_at "at"; rfl; rfl)
  | ((with_reducible apply r_ixT (j := 1)); walk_at "at"; rfl; rfl)
  | ((with_reducible apply r_ixT (j := 2)); walk_at "at"; rfl; rfl)
  | ((with_reducible apply a_pick2); walk_at "at"; omega; omega; intro _ _)
  | ((with_reducible apply a_pick3); walk_at "at"; omega; omega; intro _ _)
  | ((with_reducible apply a_pick4); walk_at "at"; omega; omega; intro _ _)
  | ((with_reducible apply r_gtup); walk_at "at"; rfl)
  | ((with_reducible apply a_lenLI); walk_at "at")
  | ((with_reducible apply r_lenL); walk_at "at")
  | ((with_reducible apply r_lenT); walk_at "at")
  | ((with_reducible apply r_tyL); walk_at "at")
  | ((with_reducible apply a_cat); walk_at "at"; walk_at "at"; walk_at "le"; intro _ _ _ _ _)
  | ((with_reducible apply a_listL); walk_at "at"; intro _ _ _ _ _)
  | ((with_reducible apply a_tupL); walk_at "at"; intro _ _ _ _ _)
  | ((with_reducible apply a_slL); walk_at "at"; intro _ _ _ _ _)
  | ((with_reducible apply a_revL); walk_at "at"; intro _ _ _ _ _)
  | ((with_reducible apply r_sumT); walk_at "at")
  | ((with_reducible apply r_sumL); walk_at "at")
  | ((with_reducible refine ⟨_, rfl, ?_, ?_, ?_⟩); omega; omega)
  | ((with_reducible refine ⟨_, _, rfl, ⟨?_, ?_, ?_, ?_⟩, ?_⟩); omega; omega; omega; omega)
  | with_reducible refine ⟨_, rfl, ⟨_, by walk_at "at"⟩, ?_⟩)
local macro_rules | `(tactic| walk_at "go") => `(tactic| (repeat (walk_at "go1")))
local macro_rules | `(tactic| walk_at "sames") => `(tactic| first | exact sameR | assumption | ((with_reducible apply sameB); assumption; walk_at "sames"))
local macro_rules | `(tactic| walk_at "sameds") => `(tactic| first | assumption | ((with_reducible apply sameD_of); walk_at "sames"; done) | ((with_reducible apply sameDB); assumption; walk_at "sameds") | ((with_reducible apply sameDS); assumption; walk_at "sameds"))
local macro_rules | `(tactic| walk_at "gs") => `(tactic| (repeat ((fail_if_success (with_reducible refine r_stop ?_)); (walk_at "go1"))))
local macro_rules | `(tactic| walk_at "c_d") => `(tactic| first
  | with_reducible assumption
  | ((with_reducible apply bakD_s); (with_reducible assumption); walk_at "c_d")
  | ((with_reducible apply bakD_d); (with_reducible assumption); walk_at "c_h"; walk_at "c_d"))
local macro_rules | `(tactic| walk_at "c_b") => `(tactic| first
  | with_reducible assumption
  | ((with_reducible apply bakAt_s); (with_reducible assumption); walk_at "c_b"))
local macro_rules | `(tactic| walk_at "c_a") => `(tactic| first
  | with_reducible assumption
  | ((with_reducible apply bakAt_D); walk_at "c_d")
  | walk_at "c_b")
local macro_rules | `(tactic| walk_at "c_m1") => `(tactic| first
  | with_reducible assumption
  | ((with_reducible apply bakM_s); (with_reducible assumption); walk_at "c_m1"))
local macro_rules | `(tactic| walk_at "c_m") => `(tactic| first
  | with_reducible assumption
  | ((with_reducible apply bakM_at); walk_at "c_a")
  | walk_at "c_m1")
local macro_rules | `(tactic| walk_at "atx") => `(tactic| first
  | ((with_reducible apply bakD_id); walk_at "c_d")
  | ((with_reducible apply bakAt_id); walk_at "c_a")
  | ((with_reducible apply bakM_id); walk_at "c_m")
  | ((with_reducible apply bakC_M); walk_at "c_m"))
local macro_rules | `(tactic| walk_at "ok") => `(tactic| first | assumption | exact BakD.ok (by assumption) | exact BakAt.ok (by assumption))
local macro_rules | `(tactic| walk_at "use") => `(tactic| first
  | ((with_reducible apply mBk); walk_at "at"; decide)
  | ((with_reducible apply pBk); walk_at "at")
  | ((with_reducible apply use_stk); walk_at "at"; omega; omega; intro _ _)
  | ((with_reducible apply use_msd); walk_at "at"; omega; omega; intro _ _)
  | ((with_reducible apply use_thn); walk_at "at"; omega; omega; intro _ _)
  | ((with_reducible apply use_sld); walk_at "at"; omega; omega; intro _ _)
  | ((with_reducible apply use_tot); walk_at "at"; omega; omega; intro _ _ _ _)
  | ((with_reducible apply use_shf); walk_at "at"; omega; omega; intro _ _ _ _ _ _)
  | ((with_reducible apply use_sdy); walk_at "at"; intro _ _ _)
  | ((with_reducible apply use_lrn); walk_at "at"; intro _ _ _ _)
  | ((with_reducible apply use_bks); walk_at "at"; intro _ _)
  | ((with_reducible apply use_dms); walk_at "at"; intro _ _)
  | ((with_reducible apply use_lif); walk_at "at")
  | ((with_reducible apply use_nxt); walk_at "at"; omega; omega; intro _ _ _ _ _ _)
  | ((with_reducible apply use_num); omega; omega)
  | ((with_reducible apply use_liv); walk_at "at"; (exact liv_ok (by walk_at "ok") (by omega) (by omega)); intro _ _ _ _)
  | ((with_reducible apply use_mor); walk_at "at"; assumption; intro _ _ _ _)
  | ((with_reducible apply a_maxB); walk_at "at"; walk_at "ok"; intro _ _ _)
  | ((with_reducible apply a_minB); walk_at "at"; walk_at "ok"; intro _ _ _)
  | with_reducible refine r_cvalR (fcv_Bakery_MAX_LIFE ‹_›) ?_
  | ((with_reducible apply a_lenTB); walk_at "at")
  | ((with_reducible apply a_lenTD); walk_at "at"; walk_at "ok")
  | ((with_reducible apply a_ixD); walk_at "at"; walk_at "ok")
  | ((with_reducible apply a_ixB); walk_at "at"; walk_at "ok"; omega))
local macro_rules | `(tactic| walk_at "alk") => `(tactic| first
  | ((with_reducible apply alk_tup); walk_at "at"; walk_at "at"; walk_at "le")
  | ((with_reducible apply alk_lst); walk_at "at"; walk_at "at"; walk_at "le")
  | ((with_reducible apply use_alkL); walk_at "at"; walk_at "at"; walk_at "le")
  | ((with_reducible apply use_alkT); walk_at "at"; walk_at "at"; walk_at "le"))
/-! the second family's drawing list on the way back -/
local macro_rules | `(tactic| walk_at "c_hb") => `(tactic| first
  | with_reducible assumption
  | ((with_reducible apply hatB_s); (with_reducible assumption); walk_at "c_hb"))
local macro_rules | `(tactic| walk_at "c_n") => `(tactic| first
  | with_reducible assumption
  | ((with_reducible apply hatB_ne); (with_reducible assumption); walk_at "c_hb"))
local macro_rules | `(tactic| walk_at "c_o") => `(tactic| first
  | with_reducible assumption
  | ((with_reducible apply atB_tup); (with_reducible assumption); walk_at "c_hb"; walk_at "c_o")
  | ((with_reducible apply atB_ins); (with_reducible assumption); walk_at "c_hb"; walk_at "c_o")
  | ((with_reducible apply atB_lst); (with_reducible assumption); walk_at "c_n"; walk_at "c_o"))
local macro_rules | `(tactic| walk_at "c_t") => `(tactic| first
  | with_reducible assumption
  | ((with_reducible apply sqTB); (with_reducible assumption); walk_at "c_hb"; walk_at "c_t"))
local macro_rules | `(tactic| walk_at "at") => `(tactic| ((with_reducible apply hatB_id); walk_at "c_hb"))
local macro_rules | `(tactic| walk_at "go1") => `(tactic| first
  | with_reducible refine r_co ?_
  | with_reducible refine r_lRg ?_
  | with_reducible refine r_rg2 ?_
  | with_reducible refine r_rg2R ?_
  | with_reducible refine r_coR ?_
  | ((with_reducible apply r_coI); walk_at "at"))
local macro_rules | `(tactic| walk_at "c_d") => `(tactic| first
  | with_reducible assumption
  | ((with_reducible apply bakDB); (with_reducible assumption); walk_at "c_hb"; walk_at "c_d"))
local macro_rules | `(tactic| walk_at "use") => `(tactic| first
  | ((with_reducible apply use_drw); walk_at "at"; omega; omega; intro _ _ _ _ _ _))
local macro_rules | `(tactic| walk_at "c_pri") => `(tactic| first
  | with_reducible assumption
  | ((with_reducible apply priAt_s); (with_reducible assumption); walk_at "c_pri")
  | ((with_reducible apply priAt_d); (with_reducible assumption); walk_at "c_hb"; walk_at "c_pri"))
local macro_rules | `(tactic| walk_at "at") => `(tactic| ((with_reducible apply priAt_id); walk_at "c_pri"))
local macro_rules | `(tactic| walk_at "use") => `(tactic| first
  | ((with_reducible apply use_priCall); walk_at "at")
  | ((with_reducible apply a_coP); walk_at "at"))
local macro_rules | `(tactic| walk_at "use") => `(tactic| ((with_reducible apply use_rpf); walk_at "at"; walk_at "at"))
local macro_rules | `(tactic| walk_at "gf") => `(tactic| (repeat ((fail_if_success (with_reducible refine r_stopF ?_)); (walk_at "go1"))))
open LamX NdefX TL
def splPar (K : PySem.W.Frag) : List (Option V) → Sp := fun ws vs H Q E => ∃ l : List Nat, ws = [some (.str (mkS l))] ∧ vs = [] ∧ l.length ≤ 16000 ∧ (∀ rs, rdT headL l = .ok rs → ∀ p us H', Same H H' → H' p = some (.lst us) → Rows5 H' us rs → Q (.ref p) H') ∧ ∀ e, rdT headL l = .error e → RepE K E H (e : Nat)
theorem okl_law_0 {P : Program} {w : World} {K : PySem.W.Frag} {mg : Str → Option Value} {base : Heap} (T : Tx K mg) : LOk P w K mg base 4 lm_law_0 [] ["_law_text"] [] (splPar K) := by
  have G_parse_report_x := ok_parse_report_x (P := P) (w := w) (base := base) T
  refine lok_of ns_law_0 lb_law_0 (fun ws vs H Q E h => ?_) (fun F f A outer s H vs ws Q E hd hr hw h => ?_)
  · obtain ⟨l, rfl, rfl, hl, k1, k2⟩ := h
    rfl
  obtain ⟨l, rfl, rfl, hl, k1, k2⟩ := h
  obtain ⟨_, _, _, _, _⟩ := F
  cases hd
  refine ⟨_, (pe_cX G_parse_report_x hr (by decide) (by rfl) (passes_call (takes_of rfl rfl rfl rfl) fun _ _ _ _ h => h) (pa_cons (pv 0) pa_nil)), ?_⟩
  try dsimp only [cxOf, Cx.nox, Cx.wish, NdefX.ncx]
  repeat rw [st_cons]
  repeat rw [st_none]
  try rw [st_nn]
  walk_at "rd"
  exact ⟨l, rfl, hl, k1, k2⟩
def splRx (K : PySem.W.Frag) : List (Option V) → Sp := fun ws vs H _ E => ∃ v : V, ws = [some v] ∧ vs = [] ∧ NumE K E H
theorem okl_law_1 {P : Program} {w : World} {K : PySem.W.Frag} {mg : Str → Option Value} {base : Heap} (T : Tx K mg) : LOk P w K mg base 3 lm_law_1 [] ["_law_bakery"] [] (splRx K) := by
  have G_report_x := ok_report_x (P := P) (w := w) (base := base) T
  refine lok_of ns_law_1 lb_law_1 (fun ws vs H Q E h => ?_) (fun F f A outer s H vs ws Q E hd hr hw h => ?_)
  · obtain ⟨v, rfl, rfl, k⟩ := h
    rfl
  obtain ⟨v, rfl, rfl, k⟩ := h
  obtain ⟨_, _, _, _, _⟩ := F
  cases hd
  refine ⟨_, (pe_cX G_report_x hr (by decide) (by rfl) (passes_call (takes_of rfl rfl rfl rfl) fun _ _ _ _ h => h) (pa_cons (pv 0) (pa_cons (pe_op op_sub pe_int pe_int) (pa_cons pe_int pa_nil)))), ?_⟩
  try dsimp only [cxOf, Cx.nox, Cx.wish, NdefX.ncx]
  repeat rw [st_cons]
  repeat rw [st_none]
  try rw [st_nn]
  walk_at "rd"
  exact ⟨v, _, _, rfl, by omega, k⟩
theorem okl_law_2 {P : Program} {w : World} {K : PySem.W.Frag} {mg : Str → Option Value} {base : Heap} (T : Tx K mg) : LOk P w K mg base 3 lm_law_2 ["_law_a"] ["_law_bakery"] [.int 0] (splRx K) := by
  have G_report_x := ok_report_x (P := P) (w := w) (base := base) T
  refine lok_of ns_law_2 lb_law_2 (fun ws vs H Q E h => ?_) (fun F f A outer s H vs ws Q E hd hr hw h => ?_)
  · obtain ⟨v, rfl, rfl, k⟩ := h
    rfl
  obtain ⟨v, rfl, rfl, k⟩ := h
  obtain ⟨_, _, _, _, _⟩ := F
  cases hd
  refine ⟨_, (pe_cX G_report_x hr (by decide) (by rfl) (passes_call (takes_of rfl rfl rfl rfl) fun _ _ _ _ h => h) (pa_cons (pv 1) (pa_cons pe_int (pa_cons pe_int pa_nil)))), ?_⟩
  try dsimp only [cxOf, Cx.nox, Cx.wish, NdefX.ncx]
  repeat rw [st_cons]
  repeat rw [st_none]
  try rw [st_nn]
  walk_at "rd"
  exact ⟨v, _, _, rfl, by omega, k⟩
theorem okl_law_3 {P : Program} {w : World} {K : PySem.W.Frag} {mg : Str → Option Value} {base : Heap} (T : Tx K mg) : LOk P w K mg base 3 lm_law_3 ["_law_b"] ["_law_bakery"] [.int 0] (splRx K) := by
  have G_report_x := ok_report_x (P := P) (w := w) (base := base) T
  refine lok_of ns_law_3 lb_law_3 (fun ws vs H Q E h => ?_) (fun F f A outer s H vs ws Q E hd hr hw h => ?_)
  · obtain ⟨v, rfl, rfl, k⟩ := h
    rfl
  obtain ⟨v, rfl, rfl, k⟩ := h
  obtain ⟨_, _, _, _, _⟩ := F
  cases hd
  refine ⟨_, (pe_cX G_report_x hr (by decide) (by rfl) (passes_call (takes_of rfl rfl rfl rfl) fun _ _ _ _ h => h) (pa_cons (pv 1) (pa_cons pe_int (pa_cons pe_int pa_nil)))), ?_⟩
  try dsimp only [cxOf, Cx.nox, Cx.wish, NdefX.ncx]
  repeat rw [st_cons]
  repeat rw [st_none]
  try rw [st_nn]
  walk_at "rd"
  exact ⟨v, _, _, rfl, by omega, k⟩
abbrev lamLev : Nat := 4
def spOut (P : Program) (w : World) (K : PySem.W.Frag) (mg : Str → Option Value) (base : Heap) (kl : Nat) : SpS := fun s vs H Q _ => ∃ (f : Addr) (sp : Sp), vs = [.ref f] ∧ Clo P w K mg base kl f sp s H ∧
  ∀ (Q' : VK) (E' : XK), (∀ v H1, Q v H1 → Q' v H1) → (∀ d H1, (∀ p H', Same H1 H' → H' p = some (.tup [.str "InvalidNumber"]) → Q (.ref p) H') → E' (.ref (He.ga K "InvalidNumber")) d H1) →
    (∀ (i : Int) dd H1, H1 dd = some (.xd [("row", .int i)]) → (∀ p H', Same H1 H' → H' p = some (.tup [.str "InvalidReport", .int i]) → Q (.ref p) H') → E' (.ref (He.ga K "InvalidReport")) (some dd) H1) → sp [] H Q' E'
theorem ok_law_outcome_s {P : Program} {w : World} {K : PySem.W.Frag} {mg : Str → Option Value} {base : Heap} (T : Tx K mg) : CalS P w K mg base CX0 5 "_law_outcome" (spOut P w K mg base lamLev) := by
  refine cals_of (d := d_law_outcome) (x := "_law_outcome") (fn_law_outcome T) rfl rfl (fg_law_outcome T) sc_law_outcome (fun _ _ _ _ _ _ us hl => match us, hl with | [_], _ => rfl) (fun s vs H Q E h => ?_) (fun cdv A outer s H vs Q E hr h => ?_)
  · obtain ⟨f, sp, rfl, hc, k⟩ := h
    rfl
  obtain ⟨f, sp, rfl, hc, k⟩ := h
  refine ⟨_, (pss_one (ps_try_two (i := 1) (c1 := .ref (He.ga K "InvalidNumber")) (c2 := .ref (He.ga K "InvalidReport")) rfl rfl sc_law_outcome.nd rfl (by rfl) ⟨by rfl, by decide, .inl (fg_InvalidNumber T)⟩ ⟨by rfl, by decide, .inl (fg_InvalidReport T)⟩ LamX.takes0 (fun W pn xe tk _ => (pss_one (ps_ret (pe_cloT (k := lamLev) (i := 0) hr (by decide) tk rfl (by rfl) (.inl rfl))))) (fun a oe cls d pn _ _ => (pss_one (ps_ret (pe_tup (pa_cons pe_str pa_nil))))) (fun a oe cls d pn hz hf => (pss_one (ps_ret (pe_tup (pa_cons pe_str (pa_cons (by exact (pe_xfG hz hf (pv 1))) pa_nil)))))))), ?_⟩
  try dsimp only [cxOf, Cx.nox, Cx.wish, NdefX.ncx]
  repeat rw [st_cons]
  repeat rw [st_none]
  try rw [st_nn]
  walk_at "rd"
  refine r_clo rfl rfl rfl hc (k _ _ (fun v H1 q => q) (fun d H1 q => ⟨true, fxm_InvalidNumber_InvalidNumber T, fun _ a ha => ?_, fun z => (nomatch z)⟩) (fun i dd H1 hd q => ⟨false, fxm_InvalidReport_InvalidNumber T, fun z => (nomatch z), fun _ => ⟨true, fxm_InvalidReport_InvalidReport T, fun _ a ha => ?_, fun z => (nomatch z)⟩⟩))
  · walk_at "rd"
    exact a_nwT (Nat.le_of_ble_eq_true rfl) fun p H2 s2 _ e2 => q p H2 s2 e2
  · walk_at "rd"
    refine r_xf ?_
    walk_at "rd"
    refine ⟨rfl, _, _, _, _, rfl, (fox_InvalidReport T).x, fxn_InvalidReport_row T, rfl, hd, rfl, ?_⟩
    walk_at "rd"
    exact a_nwT (Nat.le_of_ble_eq_true rfl) fun p H2 s2 _ e2 => q p H2 s2 e2
section
variable {P : Program} {w : World} {K : PySem.W.Frag} {mg : Str → Option Value} {base : Heap} {kl : Nat} {s : Shared} {H : Hp} {Q : VK} {E : XK} {f : Addr}
theorem use_outP {l : List Nat} (c : Clo P w K mg base kl f (splPar K [some (.str (mkS l))]) s H) (hl : l.length ≤ 16000) (k1 : ∀ rs, rdT headL l = .ok rs → ∀ p us H', Same H H' → H' p = some (.lst us) → Rows5 H' us rs → Q (.ref p) H')
    (k2 : ∀ e, rdT headL l = .error e → ∀ p H', Same H H' → H' p = some (.tup [.str "InvalidReport", .int (e : Nat)]) → Q (.ref p) H') : spOut P w K mg base kl s [.ref f] H Q E :=
  ⟨f, _, rfl, c, fun Q' E' hQ hN hR => ⟨l, rfl, rfl, hl, fun rs er p us H' s1 e1 r1 => hQ _ _ (k1 rs er p us H' s1 e1 r1), fun e ee d H' s1 n => hR _ _ _ upd_same fun p H2 s2 ep => k2 e ee p H2 (sameT (same_mut s1 (none_of_same s1 n)) s2) ep⟩⟩
theorem use_outN {v : V} (c : Clo P w K mg base kl f (splRx K [some v]) s H) (k : ∀ p H', Same H H' → H' p = some (.tup [.str "InvalidNumber"]) → Q (.ref p) H') : spOut P w K mg base kl s [.ref f] H Q E :=
  ⟨f, _, rfl, c, fun Q' E' hQ hN hR => ⟨v, rfl, rfl, fun H' s1 => hN _ _ fun p H2 s2 ep => k p H2 (sameT s1 s2) ep⟩⟩
/-- the same rows, twice -/
theorem alk_rows {p q : Addr} {us vs : List V} {rs : List Row5} (hp : H p = some (.lst us)) (hu : Rows5 H us rs) (hq : H q = some (.lst vs)) (hv : Rows5 H vs rs) (l : rs.length ≤ 100000) : AlkD K 2 H (.ref p) (.ref q) := by
  refine .inr ⟨p, q, us, vs, rfl, rfl, .inl ⟨sqL_at hp, sqL_at hq⟩, hu.1.trans hv.1.symm, by rw [hu.1]; exact l, fun i u v e1 e2 => ?_⟩
  obtain ⟨a, r, rfl, er, ea⟩ := hu.2 i u e1
  obtain ⟨b, r2, rfl, er2, eb⟩ := hv.2 i v e2
  rw [er] at er2
  cases er2
  refine .inr ⟨a, b, rowV r, rowV r, rfl, rfl, .inr ⟨sqT_at ea, sqT_at eb⟩, rfl, by show 5 ≤ 100000; decide, fun j x y h1 h2 => ?_⟩
  rw [h1] at h2
  cases h2
  refine .inl ⟨rfl, ?_⟩
  have m := List.mem_of_getElem? h1
  simp only [rowV, List.mem_cons, List.not_mem_nil, or_false] at m
  rcases m with rfl | rfl | rfl | rfl | rfl <;> exact .int _
theorem alk_bad {p q : Addr} {e : Int} (hp : H p = some (.tup [.str "InvalidReport", .int e])) (hq : H q = some (.tup [.str "InvalidReport", .int e])) : AlkD K 2 H (.ref p) (.ref q) := by
  refine .inr ⟨p, q, _, _, rfl, rfl, .inr ⟨sqT_at hp, sqT_at hq⟩, rfl, by show 2 ≤ 100000; decide, fun j x y h1 h2 => ?_⟩
  rw [h1] at h2
  cases h2
  refine .inl ⟨rfl, ?_⟩
  have m := List.mem_of_getElem? h1
  simp only [List.mem_cons, List.not_mem_nil, or_false] at m
  rcases m with rfl | rfl
  · exact .str _ (by decide +kernel)
  · exact .int _
end

end G57
end
section
set_option maxRecDepth 100000
set_option maxHeartbeats 4000000
namespace G57
open PySem PySem.Spec PyProof.Rows L2
/-! the walk's small steps: "rd" reads on as far as it can -/
local macro_rules | `(tactic| walk_at "fact") => `(tactic| fail)
local macro_rules | `(tactic| walk_at "rd1") => `(tactic| with_reducible first
  | (refine v_id ?_; first | refine r_var_0 ?_ | refine r_var_1 ?_ | refine r_var_2 ?_ | refine r_var_3 ?_ | refine r_var_4 ?_ | refine r_var_5 ?_ | refine r_var_6 ?_ | refine r_var_7 ?_ | refine r_var_8 ?_ | refine r_var_9 ?_ | refine r_var_10 ?_ | refine r_var_11 ?_ | refine r_var_12 ?_ | refine r_var_13 ?_ | refine r_var_14 ?_ | refine r_var_15 ?_ | refine r_var_16 ?_ | refine r_var_17 ?_ | refine r_var_18 ?_ | refine r_var_19 ?_ | refine r_var_20 ?_ | refine r_var_21 ?_ | refine r_var_22 ?_ | refine r_var_23 ?_ | refine r_var_24 ?_ | refine r_var_25 ?_ | refine r_var_26 ?_ | refine r_var_27 ?_ | refine r_var rfl ?_)
  | (refine s_id ?_; first | refine r_set_0 ?_ | refine r_set_1 ?_ | refine r_set_2 ?_ | refine r_set_3 ?_ | refine r_set_4 ?_ | refine r_set_5 ?_ | refine r_set_6 ?_ | refine r_set_7 ?_ | refine r_set_8 ?_ | refine r_set_9 ?_ | refine r_set_10 ?_ | refine r_set_11 ?_ | refine r_set_12 ?_ | refine r_set_13 ?_ | refine r_set_14 ?_ | refine r_set_15 ?_ | refine r_set_16 ?_ | refine r_set_17 ?_ | refine r_set_18 ?_ | refine r_set_19 ?_ | refine r_set_20 ?_ | refine r_set_21 ?_ | refine r_set_22 ?_ | refine r_set_23 ?_ | refine r_set_24 ?_ | refine r_set_25 ?_ | refine r_set_26 ?_ | refine r_set_27 ?_ | refine r_setU ?_)
  | refine r_c ?_
  | refine r_op ?_
  | refine r_I0 ?_
  | refine r_seq ?_
  | refine r_asg ?_
  | refine r_fld ?_
  | refine r_nil ?_
  | refine r_cons ?_
  | refine r_cb ?_
  | refine r_max ?_
  | refine r_min ?_
  | refine r_ret ?_
  | refine r_met ?_
  | refine r_call ?_
  | refine r_B ?_
  | refine r_test ?_
  | refine r_b' ?_
  | refine r_ifS ?_
  | refine r_if ?_
  | refine r_par ?_
  | refine r_par2 ?_
  | refine r_drop ?_
  | refine r_next ?_
  | refine r_make ?_
  | refine r_sfld ?_
  | refine r_int1 ?_
  | refine r_intb ?_
  | refine r_and ?_
  | refine r_or ?_
  | refine r_not ?_
  | refine r_chain ?_
  | refine r_isN ?_
  | refine r_notN ?_
  | refine r_un ?_
  | refine r_U ?_
  | refine r_par3 ?_
  | refine r_par33 ?_
  | refine r_tup ?_
  | refine r_lst ?_
  | refine r_prop ?_
  | refine r_bm ?_
  | refine r_bm0 ?_
  | refine r_andV ?_
  | refine r_orV ?_
  | refine r_notV ?_
  | refine r_asgG ?_
  | refine r_gname ?_
  | refine r_gcons ?_
  | refine r_gnil ?_
  | refine r_rng1 ?_
  | refine r_rng2 ?_
  | refine r_for ?_
  | refine r_lc1 ?_
  | refine r_lc2 ?_
  | refine r_lc3 ?_
  | refine r_lc ?_
  | refine r_while ?_
  | refine r_rev ?_
  | refine r_sl ?_
  | refine r_augS ?_
  | refine r_iL ?_
  | refine r_iT ?_
  | refine r_iE ?_
  | refine r_ipI ?_
  | refine r_aug rfl ?_
  | refine r_cval ?_
  | refine r_turnN ?_
  | refine iT ?_
  | refine iNT ?_
  | refine iNF ?_
  | refine iOF ?_
  | refine iF ?_
  | refine r_part ?_
  | refine r_pi ?_
  | refine r_gsub ?_
  | refine r_noPart ?_)
local macro_rules | `(tactic| walk_at "rd") => `(tactic| (repeat (first | walk_at "rd1" | walk_at "fact")))
local macro_rules | `(tactic| walk_at "plen") => `(tactic| (repeat (first | decide | refine putF_lt ?_)))
local macro_rules | `(tactic| walk_at "rs") => `(tactic| (repeat ((fail_if_success (with_reducible refine r_stop ?_)); (first | walk_at "rd1" | walk_at "fact"))))
/-! finding a fact in the present heap by the way back; each rule is applied by its conclusion before its premises are sought -/
local macro_rules | `(tactic| walk_at "atx") => `(tactic| fail)
local macro_rules | `(tactic| walk_at "c_h") => `(tactic| first
  | with_reducible assumption
  | ((with_reducible apply hat_s); (with_reducible assumption); walk_at "c_h"))
local macro_rules | `(tactic| walk_at "c_n") => `(tactic| first
  | with_reducible assumption
  | ((with_reducible apply hat_ne); (with_reducible assumption); walk_at "c_h"))
local macro_rules | `(tactic| walk_at "c_o") => `(tactic| first
  | with_reducible assumption
  | with_reducible exact upd_same
  | ((with_reducible apply at_s); (with_reducible assumption); walk_at "c_o")
  | ((with_reducible apply atd_tup); (with_reducible assumption); walk_at "c_h"; walk_at "c_o")
  | ((with_reducible apply atd_ins); (with_reducible assumption); walk_at "c_h"; walk_at "c_o")
  | ((with_reducible apply atd_lst); (with_reducible assumption); walk_at "c_n"; walk_at "c_o")
  | ((with_reducible apply atx_tup); (with_reducible assumption); walk_at "c_o"; walk_at "c_o")
  | ((with_reducible apply atx_ins); (with_reducible assumption); walk_at "c_o"; walk_at "c_o")
  | ((with_reducible apply atx_ne); (with_reducible assumption); (with_reducible assumption); walk_at "c_o"))
local macro_rules | `(tactic| walk_at "c_q") => `(tactic| first
  | with_reducible assumption
  | ((with_reducible apply sqL_s); (with_reducible assumption); walk_at "c_q"))
local macro_rules | `(tactic| walk_at "c_t") => `(tactic| first
  | with_reducible assumption
  | ((with_reducible apply sqT_s); (with_reducible assumption); walk_at "c_t")
  | ((with_reducible apply sqT_d); (with_reducible assumption); walk_at "c_h"; walk_at "c_t")
  | ((with_reducible apply sqT_x); (with_reducible assumption); walk_at "c_o"; walk_at "c_t"))
local macro_rules | `(tactic| walk_at "c_p") => `(tactic| first
  | with_reducible assumption
  | ((with_reducible apply pairs_s); (with_reducible assumption); walk_at "c_p"))
local macro_rules | `(tactic| walk_at "at") => `(tactic| first
  | with_reducible assumption
  | with_reducible exact upd_same
  | walk_at "atx"
  | ((with_reducible apply sqL_at); walk_at "c_o")
  | ((with_reducible apply sqL_s); (with_reducible assumption); walk_at "c_q")
  | ((with_reducible apply sqT_at); walk_at "c_o")
  | ((with_reducible apply sqT_id); walk_at "c_t")
  | ((with_reducible apply hat_id); walk_at "c_h")
  | ((with_reducible apply pairs_id); walk_at "c_p")
  | ((with_reducible apply ne_id); walk_at "c_n")
  | ((with_reducible apply at_id); walk_at "c_o"))
/-! a length, an inequality -/
local macro_rules | `(tactic| walk_at "le") => `(tactic| first | exact Nat.le_of_ble_eq_true rfl | omega | (simp; done) | (simp; omega))
local macro_rules | `(tactic| walk_at "ar") => `(tactic| first | omega | exact ⟨by omega, by omega⟩ | exact .inl ⟨by omega, by omega⟩ | exact .inr ⟨by omega, by omega⟩ | exact .inr (by omega) | exact .inl (by omega) | exact ⟨by omega, by omega, by omega⟩ | decide)
/-! calls of the text's own defs, with letters for what they leave -/
local macro_rules | `(tactic| walk_at "use") => `(tactic| fail)
local macro_rules | `(tactic| walk_at "go1") => `(tactic| first
  | walk_at "rd1"
  | walk_at "fact"
  | walk_at "use"
  | with_reducible refine r_p6 ?_
  | with_reducible refine r_p8 ?_
  | with_reducible refine r_p9 ?_
  | with_reducible refine r_p10 ?_
  | with_reducible refine r_p12 ?_
  | with_reducible refine r_p14 ?_
  | with_reducible refine r_p15 ?_
  | with_reducible refine r_p17 ?_
  | with_reducible refine r_p18 ?_
  | ((with_reducible apply r_I); walk_at "ar")
  | ((with_reducible apply a_neNil); walk_at "at"; intro _ _)
  | ((with_reducible apply a_eqNil); walk_at "at"; intro _ _)
  | ((with_reducible apply a_nwT); walk_at "le"; intro _ _ _ _ _)
  | ((with_reducible apply a_nwL); walk_at "le"; intro _ _ _ _ _)
  | ((with_reducible apply r_ixL (j := 0)); walk_at "at"; rfl; rfl)
  | ((with_reducible apply r_ixL (j := 1)); walk_at "at"; rfl; rfl)
  | ((with_reducible apply r_ixL (j := 2)); walk_at "at"; rfl; rfl)
  | ((with_reducible apply r_ixL (j := 3)); walk_at "at"; rfl; rfl)
  | ((with_reducible apply r_ixT (j := 0)); walk_at "at"; rfl; rfl)
  | ((with_reducible apply r_ixT (j := 1)); walk_at "at"; rfl; rfl)
  | ((with_reducible apply r_ixT (j := 2)); walk_at "at"; rfl; rfl)
  | ((with_reducible apply a_pick2); walk_at "at"; omega; omega; intro _ _)
  | ((with_reducible apply a_pick3); walk_at "at"; omega; omega; intro _ _)
  | ((with_reducible apply a_pick4); walk_at "at"; omega; omega; intro _ _)
  | ((with_reducible apply r_gtup); walk_at "at"; rfl)
  | ((with_reducible apply a_lenLI); walk_at "at")
  | ((with_reducible apply r_lenL); walk_at "at")
  | ((with_reducible apply r_lenT); walk_at "at")
  | ((with_reducible apply r_tyL); walk_at "at")
  | ((with_reducible apply a_cat); walk_at "at"; walk_at "at"; walk_at "le"; intro _ _ _ _ _)
  | ((with_reducible apply a_listL); walk_at "at"; intro _ _ _ _ _)
  | ((with_reducible apply a_tupL); walk_at "at"; intro _ _ _ _ _)
  | ((with_reducible apply a_slL); walk_at "at"; intro _ _ _ _ _)
  | ((with_reducible apply a_revL); walk_at "at"; intro _ _ _ _ _)
  | ((with_reducible apply r_sumT); walk_at "at")
  | ((with_reducible apply r_sumL); walk_at "at")
  | ((with_reducible refine ⟨_, rfl, ?_, ?_, ?_⟩); omega; omega)
  | ((with_reducible refine ⟨_, _, rfl, ⟨?_, ?_, ?_, ?_⟩, ?_⟩); omega; omega; omega; omega)
  | with_reducible refine ⟨_, rfl, ⟨_, by walk_at "at"⟩, ?_⟩)
local macro_rules | `(tactic| walk_at "go") => `(tactic| (repeat (walk_at "go1")))
local macro_rules | `(tactic| walk_at "sames") => `(tactic| first | exact sameR | assumption | ((with_reducible apply sameB); assumption; walk_at "sames"))
local macro_rules | `(tactic| walk_at "sameds") => `(tactic| first | assumption | ((with_reducible apply sameD_of); walk_at "sames"; done) | ((with_reducible apply sameDB); assumption; walk_at "sameds") | ((with_reducible apply sameDS); assumption; walk_at "sameds"))
local macro_rules | `(tactic| walk_at "gs") => `(tactic| (repeat ((fail_if_success (with_reducible refine r_stop ?_)); (walk_at "go1"))))
local macro_rules | `(tactic| walk_at "c_d") => `(tactic| first
  | with_reducible assumption
  | ((with_reducible apply bakD_s); (with_reducible assumption); walk_at "c_d")
  | ((with_reducible apply bakD_d); (with_reducible assumption); walk_at "c_h"; walk_at "c_d"))
local macro_rules | `(tactic| walk_at "c_b") => `(tactic| first
  | with_reducible assumption
  | ((with_reducible apply bakAt_s); (with_reducible assumption); walk_at "c_b"))
local macro_rules | `(tactic| walk_at "c_a") => `(tactic| first
  | with_reducible assumption
  | ((with_reducible apply bakAt_D); walk_at "c_d")
  | walk_at "c_b")
local macro_rules | `(tactic| walk_at "c_m1") => `(tactic| first
  | with_reducible assumption
  | ((with_reducible apply bakM_s); (with_reducible assumption); walk_at "c_m1"))
local macro_rules | `(tactic| walk_at "c_m") => `(tactic| first
  | with_reducible assumption
  | ((with_reducible apply bakM_at); walk_at "c_a")
  | walk_at "c_m1")
local macro_rules | `(tactic| walk_at "atx") => `(tactic| first
  | ((with_reducible apply bakD_id); walk_at "c_d")
  | ((with_reducible apply bakAt_id); walk_at "c_a")
  | ((with_reducible apply bakM_id); walk_at "c_m")
  | ((with_reducible apply bakC_M); walk_at "c_m"))
local macro_rules | `(tactic| walk_at "ok") => `(tactic| first | assumption | exact BakD.ok (by assumption) | exact BakAt.ok (by assumption))
local macro_rules | `(tactic| walk_at "use") => `(tactic| first
  | ((with_reducible apply mBk); walk_at "at"; decide)
  | ((with_reducible apply pBk); walk_at "at")
  | ((with_reducible apply use_stk); walk_at "at"; omega; omega; intro _ _)
  | ((with_reducible apply use_msd); walk_at "at"; omega; omega; intro _ _)
  | ((with_reducible apply use_thn); walk_at "at"; omega; omega; intro _ _)
  | ((with_reducible apply use_sld); walk_at "at"; omega; omega; intro _ _)
  | ((with_reducible apply use_tot); walk_at "at"; omega; omega; intro _ _ _ _)
  | ((with_reducible apply use_shf); walk_at "at"; omega; omega; intro _ _ _ _ _ _)
  | ((with_reducible apply use_sdy); walk_at "at"; intro _ _ _)
  | ((with_reducible apply use_lrn); walk_at "at"; intro _ _ _ _)
  | ((with_reducible apply use_bks); walk_at "at"; intro _ _)
  | ((with_reducible apply use_dms); walk_at "at"; intro _ _)
  | ((with_reducible apply use_lif); walk_at "at")
  | ((with_reducible apply use_nxt); walk_at "at"; omega; omega; intro _ _ _ _ _ _)
  | ((with_reducible apply use_num); omega; omega)
  | ((with_reducible apply use_liv); walk_at "at"; (exact liv_ok (by walk_at "ok") (by omega) (by omega)); intro _ _ _ _)
  | ((with_reducible apply use_mor); walk_at "at"; assumption; intro _ _ _ _)
  | ((with_reducible apply a_maxB); walk_at "at"; walk_at "ok"; intro _ _ _)
  | ((with_reducible apply a_minB); walk_at "at"; walk_at "ok"; intro _ _ _)
  | with_reducible refine r_cvalR (fcv_Bakery_MAX_LIFE ‹_›) ?_
  | ((with_reducible apply a_lenTB); walk_at "at")
  | ((with_reducible apply a_lenTD); walk_at "at"; walk_at "ok")
  | ((with_reducible apply a_ixD); walk_at "at"; walk_at "ok")
  | ((with_reducible apply a_ixB); walk_at "at"; walk_at "ok"; omega))
local macro_rules | `(tactic| walk_at "alk") => `(tactic| first
  | ((with_reducible apply alk_tup); walk_at "at"; walk_at "at"; walk_at "le")
  | ((with_reducible apply alk_lst); walk_at "at"; walk_at "at"; walk_at "le")
  | ((with_reducible apply use_alkL); walk_at "at"; walk_at "at"; walk_at "le")
  | ((with_reducible apply use_alkT); walk_at "at"; walk_at "at"; walk_at "le"))
/-! the second family's drawing list on the way back -/
local macro_rules | `(tactic| walk_at "c_hb") => `(tactic| first
  | with_reducible assumption
  | ((with_reducible apply hatB_s); (with_reducible assumption); walk_at "c_hb"))
local macro_rules | `(tactic| walk_at "c_n") => `(tactic| first
  | with_reducible assumption
  | ((with_reducible apply hatB_ne); (with_reducible assumption); walk_at "c_hb"))
local macro_rules | `(tactic| walk_at "c_o") => `(tactic| first
  | with_reducible assumption
  | ((with_reducible apply atB_tup); (with_reducible assumption); walk_at "c_hb"; walk_at "c_o")
  | ((with_reducible apply atB_ins); (with_reducible assumption); walk_at "c_hb"; walk_at "c_o")
  | ((with_reducible apply atB_lst); (with_reducible assumption); walk_at "c_n"; walk_at "c_o"))
local macro_rules | `(tactic| walk_at "c_t") => `(tactic| first
  | with_reducible assumption
  | ((with_reducible apply sqTB); (with_reducible assumption); walk_at "c_hb"; walk_at "c_t"))
local macro_rules | `(tactic| walk_at "at") => `(tactic| ((with_reducible apply hatB_id); walk_at "c_hb"))
local macro_rules | `(tactic| walk_at "go1") => `(tactic| first
  | with_reducible refine r_co ?_
  | with_reducible refine r_lRg ?_
  | with_reducible refine r_rg2 ?_
  | with_reducible refine r_rg2R ?_
  | with_reducible refine r_coR ?_
  | ((with_reducible apply r_coI); walk_at "at"))
local macro_rules | `(tactic| walk_at "c_d") => `(tactic| first
  | with_reducible assumption
  | ((with_reducible apply bakDB); (with_reducible assumption); walk_at "c_hb"; walk_at "c_d"))
local macro_rules | `(tactic| walk_at "use") => `(tactic| first
  | ((with_reducible apply use_drw); walk_at "at"; omega; omega; intro _ _ _ _ _ _))
local macro_rules | `(tactic| walk_at "gf") => `(tactic| (repeat ((fail_if_success (with_reducible refine r_stopF ?_)); (walk_at "go1"))))
open LamX NdefX TL
local macro_rules | `(tactic| walk_at "fact") => `(tactic| first
  | with_reducible refine r_m1 ?_
  | with_reducible refine r_m1R ?_)
/-- what is read of a text -/
def Outc (H : Hp) (l : List Nat) (v : V) : Prop := (∃ rs p us, rdT headL l = .ok rs ∧ v = .ref p ∧ H p = some (.lst us) ∧ Rows5 H us rs) ∨ ∃ (e : Nat) (p : Addr), rdT headL l = .error e ∧ v = .ref p ∧ H p = some (.tup [.str "InvalidReport", .int (e : Nat)])
theorem Outc.mono {H H' : Hp} {l : List Nat} {v : V} (s : Same H H') (h : Outc H l v) : Outc H' l v := h.elim (fun ⟨rs, p, us, a, b, c, d⟩ => .inl ⟨rs, p, us, a, b, s _ _ c, d.mono s⟩) fun ⟨e, p, a, b, c⟩ => .inr ⟨e, p, a, b, s _ _ c⟩
theorem rdT_len {l : List Nat} {rs : List Row5} (h : rdT headL l = .ok rs) : rs.length ≤ l.length + 1 := by
  have m := lns_many l
  unfold rdT at h
  split at h
  · cases h
  · rename_i x ls e
    split at h
    · have := rdL_len h
      rw [e, List.length_cons] at m
      omega
    · cases h
theorem Outc.alk {K : PySem.W.Frag} {H : Hp} {l : List Nat} {u v : V} (a : Outc H l u) (b : Outc H l v) (hl : l.length ≤ 16000) : AlkD K 2 H u v := by
  rcases a with ⟨rs, p, us, e, rfl, hp, ru⟩ | ⟨e, p, ee, rfl, hp⟩
  · rcases b with ⟨rs2, q, vs, e2, rfl, hq, rv⟩ | ⟨e2, q, ee2, rfl, hq⟩
    · rw [e] at e2
      cases e2
      exact alk_rows hp ru hq rv (by have := rdT_len e; omega)
    · rw [e] at ee2
      cases ee2
  · rcases b with ⟨rs2, q, vs, e2, rfl, hq, rv⟩ | ⟨e2, q, ee2, rfl, hq⟩
    · rw [ee] at e2
      cases e2
    · rw [ee] at ee2
      cases ee2
      exact alk_bad hp hq
theorem use_outC {P : Program} {w : World} {K : PySem.W.Frag} {mg : Str → Option Value} {base : Heap} {kl : Nat} {s : Shared} {H : Hp} {Q : VK} {E : XK} {f : Addr} {l : List Nat} (c : Clo P w K mg base kl f (splPar K [some (.str (mkS l))]) s H) (hl : l.length ≤ 16000) (k : ∀ v H', Same H H' → Outc H' l v → Q v H') : spOut P w K mg base kl s [.ref f] H Q E :=
  use_outP c hl (fun rs e p us H' s1 ep r => k _ _ s1 (.inl ⟨rs, p, us, e, rfl, ep, r⟩)) fun e ee p H' s1 ep => k _ _ s1 (.inr ⟨e, p, ee, rfl, ep⟩)
theorem use_read {K : PySem.W.Frag} {H : Hp} {Q : VK} {E : XK} {l : List Nat} (hl : l.length ≤ 16000) (k : ∀ v H', Same H H' → Outc H' l v → Q v H') : spRead K [.str (mkS l)] H Q E :=
  ⟨l, rfl, hl, fun rs e p us H' s1 ep r => k _ _ s1 (.inl ⟨rs, p, us, e, rfl, ep, r⟩), fun e ee p H' s1 ep => k _ _ s1 (.inr ⟨e, p, ee, rfl, ep⟩)⟩
def bnd47 : Nat → Nat
  | 0 => 2200
  | 1 => 4900
  | _ => 10300
def spLaw (K : PySem.W.Frag) : Sp := fun vs H Q _ => ∃ (a : Addr) (ns : List Int), vs = [.ref a] ∧ SqL K H a (ns.map V.int) ∧ ns.length ≤ 63 ∧ TabsF (TL K) H ∧ ∀ H', Q (.bl true) H'
abbrev lawLev : Nat := 10
theorem ok_law {P : Program} {w : World} {K : PySem.W.Frag} {mg : Str → Option Value} {base : Heap} {fd : FuncData} (TB : TxB K mg base) (F : FunD K d_law.name d_law.qual d_law.params d_law.body d_law.scope [] (d_law.kws K) (He.ga K "law") fd) : FnOk P w K mg base CX0 lawLev (He.ga K "law") fd ["_law_script"] (spLaw K) := by
  have T := TB.t
  have G_law_start := ok_law_start (P := P) (w := w) (base := base) T
  have G_law_drawn := ok_law_drawn (P := P) (w := w) (base := base) T
  have G_law_amounts := ok_law_amounts (P := P) (w := w) (base := base) T
  have G_Bakery := ok_Bakery_init (P := P) (w := w) (base := base) T
  have G_law_line := ok_law_line (P := P) (w := w) (base := base) T
  have G_Bakery_sold := ok_Bakery_sold (P := P) (w := w) (base := base) T
  have G_Bakery_missed := ok_Bakery_missed (P := P) (w := w) (base := base) T
  have G_Bakery_thrown := ok_Bakery_thrown (P := P) (w := w) (base := base) T
  have G_law_grouped := ok_law_grouped (P := P) (w := w) (base := base) T
  have G_report := ok_report (P := P) (w := w) (base := base) T
  have G_law_changed := ok_law_changed (P := P) (w := w) (base := base) T
  have G_law_same := ok_law_same (P := P) (w := w) (base := base) T 2
  have G_law_outcome_s := ok_law_outcome_s (P := P) (w := w) (base := base) T
  have G_law_read := ok_law_read (P := P) (w := w) (base := base) T
  refine fnC_of F sc_law (fun vs H Q E h => ?_) (fun A outer s H vs Q E hr h => ?_)
  · obtain ⟨a, ns, rfl, hS, hn, hT, k⟩ := h
    rfl
  obtain ⟨a, ns, rfl, hS, hn, hT, k⟩ := h
  refine ⟨_, (pss_cons (ps_set (i := 1) sc_law.nd rfl (Or.inl rfl) (C8.pe_c G_law_start hr (by decide) (by rfl) (pa_cons (pv 0) pa_nil)))
      (pss_cons (ps_for PassesOwn.never rfl (pi_range1 (by rfl) (fn_range T) (pa_cons pe_int pa_nil)) (pg_name (i := 2) sc_law.nd rfl (Or.inl rfl)) (pss_cons (ps_par (i := 3) (j := 4) (by rfl) sc_law.nd rfl rfl (by decide) rfl rfl (pa_cons (pe_ix ix_list (pe_lst (pa_cons pe_int (pa_cons pe_int (pa_cons (pe_op op_pow pe_int pe_int) pa_nil)))) (C8.pe_c G_law_drawn hr (by decide) (by rfl) (pa_cons (pv 1) (pa_cons pe_int pa_nil))) (fun _ _ => rfl)) (pa_cons (pe_op op_add pe_int (C8.pe_c G_law_drawn hr (by decide) (by rfl) (pa_cons (pv 1) (pa_cons pe_int pa_nil)))) pa_nil)) (by rfl))
      (pss_cons (ps_par (i := 5) (j := 6) (by rfl) sc_law.nd rfl rfl (by decide) rfl rfl (pa_cons (C8.pe_c G_law_amounts hr (by decide) (by rfl) (pa_cons (pv 1) (pa_cons (pv 4) (pa_cons (pv 3) pa_nil)))) (pa_cons (C8.pe_c G_law_amounts hr (by decide) (by rfl) (pa_cons (pv 1) (pa_cons (pv 4) (pa_cons (pv 3) pa_nil)))) pa_nil)) (by rfl))
      (pss_cons (ps_set (i := 7) sc_law.nd rfl (Or.inr rfl) (C8.pe_mk G_Bakery hr (by decide) (by rfl) (pa_cons (pv 5) (pa_cons (pv 6) (pa_cons (pe_op op_add pe_int (C8.pe_c G_law_drawn hr (by decide) (by rfl) (pa_cons (pv 1) (pa_cons pe_int pa_nil)))) pa_nil)))))
      (pss_cons (ps_set (i := 8) sc_law.nd rfl (Or.inl rfl) (C8.pe_c G_law_drawn hr (by decide) (by rfl) (pa_cons (pv 1) (pa_cons (pe_ix ix_list (pe_lst (pa_cons pe_int (pa_cons (pe_op op_sub (pe_op op_pow pe_int pe_int) pe_int) pa_nil))) (C8.pe_c G_law_drawn hr (by decide) (by rfl) (pa_cons (pv 1) (pa_cons pe_int pa_nil))) (fun _ _ => rfl)) pa_nil))))
      (pss_cons (ps_set (i := 9) sc_law.nd rfl (Or.inl rfl) (pe_op op_add (pv 8) (C8.pe_c G_law_drawn hr (by decide) (by rfl) (pa_cons (pv 1) (pa_cons pe_int pa_nil)))))
      (pss_cons (ps_set (i := 10) sc_law.nd rfl (Or.inl rfl) (pe_lst (pa_cons (C8.pe_c G_law_line hr (by decide) (by rfl) (pa_cons (pe_lst (pa_cons pe_str (pa_cons pe_str (pa_cons pe_str (pa_cons pe_str (pa_cons pe_str pa_nil)))))) pa_nil)) pa_nil)))
      (pss_cons (ps_for PassesOwn.never rfl (pi_range2 (by rfl) (fn_range T) (pa_cons (pv 8) (pa_cons (pe_op op_add (pv 9) pe_int) pa_nil))) (pg_name (i := 11) sc_law.nd rfl (Or.inl rfl)) (pss_cons (ps_set (i := 12) sc_law.nd rfl (Or.inl rfl) (pe_lst (pa_cons (pv 11) (pa_cons (pe_ix ix_tup (pv 5) (pe_op op_mod (pv 11) (pv 4)) (fun _ _ => rfl)) (pa_cons (C8.pe_mt G_Bakery_sold hr (by decide) (pv 7) (pa_cons (pv 11) pa_nil)) (pa_cons (C8.pe_mt G_Bakery_missed hr (by decide) (pv 7) (pa_cons (pv 11) pa_nil)) (pa_cons (C8.pe_mt G_Bakery_thrown hr (by decide) (pv 7) (pa_cons (pv 11) pa_nil)) pa_nil)))))))
        (pss_one (ps_expr (pe_bm PySem.F.plainAttrs_list PySem.F.slot_list_append PySem.F.type_list_append mt_append (pv 10) (pa_cons (C8.pe_c G_law_line hr (by decide) (by rfl) (pa_cons (pe_lc (own := [("_law_number_here", 13)]) (by rfl) sc_law.nd (pi_list (pv 12)) (blkOk_by (own := [("_law_number_here", 13)]) (N := ["_law_script", "_law_state", "_law_turn", "_law_high", "_law_size", "_law_bakes", "_law_demands", "_law_bakery", "_law_first", "_law_last", "_law_lines", "_law_day", "_law_numbers", "_law_number_here", "_law_text", "_law_change", "_law_works", "_law_work"]) (sc := defScope s_law) (by decide +kernel)) (fun _ _ _ _ _ => (pg_name (i := 13) sc_law.nd rfl (Or.inl rfl))) (fun _ _ _ _ _ => pts_nil) (fun _ _ _ _ _ => by exact (C8.pe_c G_law_grouped hr (by decide) (by rfl) (pa_cons (pv 13) pa_nil)))) pa_nil)) pa_nil))))))
      (pss_cons (ps_set (i := 14) sc_law.nd rfl (Or.inr rfl) (pe_joinN pe_str (pv 10)))
      (pss_cons (ps_if (pt_cmpR op_ne (C8.pe_c G_report hr (by decide) (by rfl) (pa_cons (pv 7) (pa_cons (pv 8) (pa_cons (pv 9) pa_nil)))) (pv 14) (nomark _)) (pss_one (ps_ret pe_bl)) pss_nil)
      (pss_cons (ps_for PassesOwn.never rfl (pi_range1 (by rfl) (fn_range T) (pa_cons (C8.pe_c G_law_drawn hr (by decide) (by rfl) (pa_cons (pv 1) (pa_cons pe_int pa_nil))) pa_nil)) (pg_name (i := 15) sc_law.nd rfl (Or.inl rfl)) (pss_one (ps_set (i := 14) sc_law.nd rfl (Or.inr rfl) (C8.pe_c G_law_changed hr (by decide) (by rfl) (pa_cons (pv 1) (pa_cons (pv 14) pa_nil))))))
      (pss_cons (ps_if (pt_not (pt_val (C8.pe_c G_law_same hr (by decide) (by rfl) (pa_cons (pe_cS (E := fun _ => E0) G_law_outcome_s hr (by decide) (by rfl) (fun _ _ _ _ I => inv_cellsK I) (fun _ _ _ _ _ _ _ h => h.elim) (pa_cons (pe_lm (d := lm_law_0) (T := TL K) (tb_law TB) (by rfl) tm_law (tu_law TB) (lm_free cap_law_0) (by rfl) (by rfl)) pa_nil)) (pa_cons (C8.pe_c G_law_read hr (by decide) (by rfl) (pa_cons (pv 14) pa_nil)) pa_nil))))) (pss_one (ps_ret pe_bl)) pss_nil)
      (pss_cons (ps_set (i := 16) sc_law.nd rfl (Or.inl rfl) (pe_lst (pa_cons (pe_lm (d := lm_law_1) (T := TL K) (tb_law TB) (by rfl) tm_law (tu_law TB) (lm_free cap_law_1) (by rfl) (by rfl)) (pa_cons (pe_lm1 (i := 0) (d := lm_law_2) (T := TL K) (tb_law TB) (by rfl) tm_law (tu_law TB) (lm_free cap_law_2) (by rfl) pe_int (by rfl)) (pa_cons (pe_lm1 (i := 0) (d := lm_law_3) (T := TL K) (tb_law TB) (by rfl) tm_law (tu_law TB) (lm_free cap_law_3) (by rfl) pe_int (by rfl)) pa_nil)))))
      (pss_one (ps_if (pt_cmpR (op_neD hr.units) (pe_lcS (own := [("_law_work", 17)]) G_law_outcome_s hr (by decide) (by rfl) sc_law.nd (pi_list (pv 16)) (blkOk_by (own := [("_law_work", 17)]) (N := ["_law_script", "_law_state", "_law_turn", "_law_high", "_law_size", "_law_bakes", "_law_demands", "_law_bakery", "_law_first", "_law_last", "_law_lines", "_law_day", "_law_numbers", "_law_number_here", "_law_text", "_law_change", "_law_works", "_law_work"]) (sc := defScope s_law) (by decide +kernel)) (fun _ _ _ _ _ => (pg_name (i := 17) sc_law.nd rfl (Or.inl rfl))) (fun _ _ _ _ _ => pts_nil) (fun _ _ _ _ _ => by rfl) (fun _ _ _ _ _ => by exact (pa_cons (pv 17) pa_nil))) (pe_op op_rep (pe_lst (pa_cons (pe_tup (pa_cons pe_str pa_nil)) pa_nil)) pe_int) (nomark _)) (pss_one (ps_ret pe_bl)) pss_nil)))))))))))))))
      (pss_one (ps_ret pe_bl)))), ?_⟩
  try dsimp only [cxOf, Cx.nox, Cx.wish]
  repeat rw [st_cons]
  repeat rw [st_none]
  try rw [st_nn]
  walk_at "rd"
  refine use_sta2 hS hn fun h H1 s1 hh hat => ?_
  have hT1 := tabsF_s s1 hT
  walk_at "go"
  refine fR_range (fun i σ H' => ∃ x2 x3 x4 x5 x6 x7 x8 x9 x10 x11 x12 x13 x14 x15 x16 x17 : Option V, σ = [some (.ref a), some (.ref h), x2, x3, x4, x5, x6, x7, x8, x9, x10, x11, x12, x13, x14, x15, x16, x17] ∧ HatB K H' h a ∧ TabsF (TL K) H') ⟨none, none, none, none, none, none, none, none, none, none, none, none, none, none, none, none, rfl, hat, hT1⟩ ?_ ?_
  · clear s1 hS hat hT hT1
    rintro i0 σ H' hi ⟨x2, x3, x4, x5, x6, x7, x8, x9, x10, x11, x12, x13, x14, x15, x16, x17, rfl, hat, hT⟩
    walk_at "go"
    rename_i pP HP sP nP eP r1 H2 r10 r11 hat2 sd2 w hw r2 H3 r20 r21 hat3 sd3
    have w0 : 0 ≤ w ∧ w ≤ 1000000000 := by
      rcases hw with rfl | rfl | rfl <;> omega
    refine use_amB (by walk_at "at") (by omega) (by omega) w0.1 (by omega) fun tb H5 xs hat5 sd5 hxs xl xb => ?_
    walk_at "go"
    refine use_amB (by walk_at "at") (by omega) (by omega) w0.1 (by omega) fun tw H6 ys hat6 sd6 hys yl yb => ?_
    walk_at "go"
    rename_i r3 H7 r30 r31 hat7 sd7
    have ok : (Bak.mk xs ys (1 + r3)).Ok := ok_drawn (n := xs.length) (by omega) (by omega) (w := w) (by omega) rfl (by omega) xb yb (by omega) (by omega)
    refine use_BakeryB (B := ⟨xs, ys, 1 + r3⟩) hat7 rfl (by walk_at "at") (by walk_at "at") ok fun b H8 s8 hb => ?_
    have en : (Bak.mk xs ys (1 + r3)).n = xs.length := rfl
    generalize hB : Bak.mk xs ys (1 + r3) = B at ok hb en
    have exs : xs = B.bakes := by rw [← hB]
    rw [exs] at hxs
    have e2 : 1 + r2 = ((B.n : Nat) : Int) := by omega
    rw [e2]
    have n0 := ok.n0
    have htb : SqT K H8 tb (B.bakes.map V.int) := by walk_at "at"
    have hat8 : HatB K H8 h a := by walk_at "at"
    have sd08 : SameD h h H' H8 := by walk_at "sameds"
    have hT8 := tabsF_d sd08 hat hT
    clear exs xb yb hB xl yl sd08 hat hT hat2 sd2 hat3 sd3 hat5 sd5 hat6 sd6 hat7 sd7 s8 hxs hys sP nP eP r10 r11 r20 r21 r30 r31 hw e2
    walk_at "go"
    rename_i p8 H9 s9 n9 e9 rA H10 rA0 rA1 hat10 sd10 z hz rF H11 rF0 rF1 hat11 sd11 rL H12 rL0 rL1 hat12 sd12 p13 H13 s13 n13 e13
    have hz1 : z ≤ 1000000000000000000 - 9 := by rcases hz with rfl | rfl <;> omega
    obtain ⟨f, rfl⟩ : ∃ f : Nat, rF = (f : Int) := ⟨rF.toNat, by omega⟩
    obtain ⟨n, rfl⟩ : ∃ n : Nat, rL = (n : Int) := ⟨rL.toNat, by omega⟩
    have fn : f + n ≤ 1000000000000000000 := by omega
    have n5 : n ≤ 5 := by omega
    have hh : SqL K H13 p13 [V.str (mkS (codes "day")), .str (mkS (codes "baked")), .str (mkS (codes "sold")), .str (mkS (codes "missed")), .str (mkS (codes "thrown"))] := by simp only [codes, mkS_tl]; exact sqL_at e13
    refine use_lline hh (by decide +kernel) fun H14 s14 => ?_
    have hat14 : HatB K H14 h a := by walk_at "at"
    have htb14 : SqT K H14 tb (B.bakes.map V.int) := by walk_at "at"
    have hb14 : BakD K h h H14 b B := by walk_at "at"
    have sd14 : SameD h h H8 H14 := by walk_at "sameds"
    have hT14 := tabsF_d sd14 hat8 hT8
    clear hh sd14 hT8 hat8 hb htb s9 n9 e9 rA0 rA1 hat10 sd10 hz rF1 hat11 sd11 hat12 sd12 s13 n13 e13 s14 rL1 hz1
    walk_at "go"
    rename_i pl H15 s15 nl el
    have hat15 := hatB_s s15 hat14
    have nlh := (hat14.ne nl).1
    rw [show (((f : Nat) : Int) + (n : Nat) + 1 - (f : Nat)).toNat = n + 1 by omega]
    refine fR_range (n := n + 1) (fun i σ H' => (∃ x11 x12 x13 : Option V, σ = [some (.ref a), some (.ref h), some (.int (0 + (i0 : Nat))), some (.int w), some (.int (B.n : Nat)), some (.ref tb), some (.ref tw), some (.ref b), some (.int (f : Nat)), some (.int ((f : Nat) + (n : Nat))), some (.ref pl), x11, x12, x13, x14, x15, x16, x17]) ∧ H' pl = some (.lst (((repL B f i).map mkS).map V.str)) ∧ Same H14 H')
      ⟨⟨_, _, _, rfl⟩, el, s15⟩ ?_ ?_
    · clear el s15 hat15 H15
      rintro i σ H15 hi ⟨⟨x11, x12, x13, rfl⟩, el, s15⟩
      have hM1 : BakM K H15 b B := bakM_s s15 (bakM_at (bakAt_D hb14))
      have f0 : (0 : Int) ≤ (f : Nat) + (i : Nat) := by omega
      have et : ((f : Nat) : Int) + (i : Nat) = ((f + i : Nat) : Int) := by omega
      have htb15 := same_sqT s15 htb14
      walk_at "go"
      rename_i Hx1 sx1 Hx2 sx2 Hx3 sx3 p5 H16 s16 n16 e16
      have e : (((f : Nat) : Int) + (i : Nat)).toNat = f + i := by omega
      rw [e, et] at e16
      have el16 := s16 _ _ (sx3 _ _ (sx2 _ _ (sx1 _ _ el)))
      have s014 : Same H14 H16 := sameT s15 (sameT sx1 (sameT sx2 (sameT sx3 s16)))
      have bounds := day_bounds ok (d := f + i) (by omega)
      have lens := wd_len5 ok (d := f + i) (by omega)
      clear sx1 sx2 sx3 s16 n16 hM1 htb15 el s15
      refine lcW_list (xs := [((f + i : Nat) : Int), B.bk ((f + i : Nat) : Int), B.wish ((f + i : Nat) : Int) - B.ms (f + i), B.ms (f + i), B.th (f + i)]) (fun z => mkS (wd z)) e16 (by show 5 ≤ 100000; omega) (fun z H' Z hz s6 q => ?_) fun D H17 hD s17 e17 => ?_
      · walk_at "rd"
        have b := bounds z hz
        exact use_grp b.1 (by omega) q
      walk_at "rd"
      refine use_lline (sqL_at e17) ⟨Nat.le_trans (lens _ (by simp)) (by decide), Nat.le_trans (lens _ (by simp)) (by decide), Nat.le_trans (lens _ (by simp)) (by decide), Nat.le_trans (lens _ (by simp)) (by decide), Nat.le_trans (lens _ (by simp)) (by decide)⟩ fun H18 s18 => ?_
      have el18 := s18 _ _ (s17 _ _ el16)
      have s018 : Same H14 H18 := sameT s014 (sameT s17 s18)
      walk_at "rd"
      refine r_append el18 (by rw [List.length_map, List.length_map, repL_len]; omega) ?_
      refine ⟨⟨_, _, _, rfl⟩, ?_, same_mut s018 nl⟩
      rw [upd_same]
      have er : repL B f (i + 1) = repL B f i ++ [dayL B (f + i)] := by
        unfold repL
        rw [List.range_succ, List.map_append]
        rfl
      rw [er, List.map_append, List.map_append]
      rfl
    · clear el s15 hat15 H15
      rintro σ H15 ⟨⟨x11, x12, x13, rfl⟩, el, s15⟩
      walk_at "go"
      have rs := repL_size ok (f := f) (n := n + 1) (by omega)
      have lsz : tot (repL B f (n + 1)) ≤ 2200 := by
        rw [len_mkS] at rs
        unfold tot
        rw [repL_len]
        omega
      refine r_joinN (sqL_at el) (by rw [List.length_map, repL_len, show (Str.ofString "\n").length = 1 by decide +kernel]; omega) ?_
      rw [join_mkS]
      have jl := joinL_tot (repL B f (n + 1))
      walk_at "rd"
      refine ⟨b, B, f, n, rfl, bakM_s s15 (bakM_at (bakAt_D hb14)), fn, by omega, fun H16 s16 => ?_⟩
      rw [show mkS [10] = Str.ofString "\n" from ext_tl (by decide +kernel), join_mkS]
      walk_at "rd"
      refine r_neS (by rfl) ?_
      walk_at "rd"
      refine iN' rfl ?_
      have hat16 : HatB K H16 h a := hatB_s s16 (hatB_s s15 hat14)
      have hT16 := tabsF_s s16 (tabsF_s s15 hT14)
      have hb16 := bakD_s s16 (bakD_s s15 hb14)
      generalize joinL [10] (repL B f (n + 1)) = l0 at jl ⊢
      have l0l : l0.length ≤ 2200 := by omega
      clear el s15 s16 rs lsz jl hat14 hT14 hb14 htb14 nl nlh H15 H14
      walk_at "go"
      rename_i c H17 c0 c1 hat17 sd17
      obtain ⟨cn, rfl⟩ : ∃ cn : Nat, c = (cn : Int) := ⟨c.toNat, by omega⟩
      have hT17 := tabsF_d sd17 hat16 hT16
      have hb17 := bakDB sd17 hat16 hb16
      clear hat16 hT16 hb16 sd17 H16
      rw [show ((cn : Nat) : Int).toNat = cn from rfl]
      refine fR_range (n := cn) (fun i σ H' => (∃ (l : List Nat) (x15 : Option V), σ = [some (.ref a), some (.ref h), some (.int (0 + (i0 : Nat))), some (.int w), some (.int (B.n : Nat)), some (.ref tb), some (.ref tw), some (.ref b), some (.int (f : Nat)), some (.int ((f : Nat) + (n : Nat))), some (.ref pl), x11, x12, x13, some (.str (mkS l)), x15, x16, x17] ∧ l.length ≤ bnd47 i) ∧ HatB K H' h a ∧ TabsF (TL K) H' ∧ BakD K h h H' b B)
        ⟨⟨l0, _, rfl, l0l⟩, hat17, hT17, hb17⟩ ?_ ?_
      · clear hat17 hT17 hb17 l0l
        rintro i σ H17 hi ⟨⟨l, x15, rfl, ll⟩, hat17, hT17, hb17⟩
        have l5 : l.length ≤ 5000 ∧ 2 * l.length + 500 ≤ bnd47 (i + 1) := by
          have : i < 2 := by omega
          match i, this with
          | 0, _ =>
            have l2 : l.length ≤ 2200 := ll
            exact ⟨by omega, by show _ ≤ 4900; omega⟩
          | 1, _ =>
            have l2 : l.length ≤ 4900 := ll
            exact ⟨by omega, by show _ ≤ 10300; omega⟩
        walk_at "go"
        refine use_chg hat17 l5.1 fun l' H18 ll' hat18 sd18 => ?_
        walk_at "rd"
        exact ⟨⟨l', _, rfl, Nat.le_trans ll' l5.2⟩, hat18, tabsF_d sd18 hat17 hT17, bakDB sd18 hat17 hb17⟩
      · clear hat17 hT17 hb17 l0l l0 H17
        rintro σ H17 ⟨⟨l, x15, rfl, ll⟩, hat17, hT17, hb17⟩
        have l16 : l.length ≤ 16000 := by
          have : bnd47 cn ≤ 10300 := by
            match cn with
            | 0 => decide
            | 1 => decide
            | m + 2 => exact Nat.le_refl _
          omega
        clear ll c0 c1
        walk_at "go"
        refine r_cS ?_
        walk_at "rd"
        refine r_lm hT17 fun f0 F0 H18 x18 hT18 nf0 lam0 dd0 o0 => ?_
        walk_at "rd"
        intro sq0 kc0
        refine use_outC (clo_at_cells (okl_law_0 T) (by decide) lam0 dd0 o0 cap_law_0 kc0) l16 fun v H19 s19 ov => ?_
        have hat19 := hatB_s s19 (hatB_n x18 hat17)
        have hT19 := tabsF_s s19 hT18
        walk_at "go"
        refine use_read l16 fun v2 H20 s20 ov2 => ?_
        walk_at "rd"
        refine ⟨_, _, rfl, (ov.mono s20).alk ov2 l16, fun H21 s21 => ?_⟩
        walk_at "rd"
        have s1921 := sameT s20 s21
        have hat21 := hatB_s s1921 hat19
        have hT21 := tabsF_s s1921 hT19
        clear ov ov2 s20 s21 s1921 hat19 hT19 s19 kc0 sq0 o0 dd0 lam0 nf0 hT18 x18 hT17 hat17 hb17
        walk_at "go"
        refine r_lm hT21 fun g0 F0 H22 x22 hT22 ng0 lam0 d0 o0 => ?_
        walk_at "go"
        refine r_lm hT22 fun g1 F1 H23 x23 hT23 ng1 lam1 d1 o1 => ?_
        walk_at "go"
        refine r_lm hT23 fun g2 F2 H24 x24 hT24 ng2 lam2 d2 o2 => ?_
        walk_at "go"
        rename_i ws H26 s26 nws ews
        have hat26 : HatB K H26 h a := hatB_s s26 (hatB_n x24 (hatB_n x23 (hatB_n x22 hat21)))
        have hT26 := tabsF_s s26 hT24
        have st4 : Still H24 H26 := .of s26
        have lm2 := lam2.st st4
        have lm1 := lam1.st ((Still.n x24).tr st4)
        have lm0 := lam0.st ((Still.n x23).tr ((Still.n x24).tr st4))
        clear s26 x24 x23 x22 hat21 hT21 hT22 hT23 hT24 lam0 lam1 lam2 nws ng0 ng1 ng2 st4
        have told : ∀ (i : Nat) (v : V), Stab fun H' => ∃ z, v = V.ref z ∧ H' z = some (.tup [.str "InvalidNumber"]) := fun i v => Stab.ex fun z => Stab.and Stab.triv Stab.tup
        refine lcN_list (fun i v H' => ∃ z, v = V.ref z ∧ H' z = some (.tup [.str "InvalidNumber"])) told ews (by show 3 ≤ sizeLine; decide) wipe1' (fun i x H27 Z hx s27 z => ?_) fun D H28 ys nD s28 eD ly all => ?_
        · rw [wipe1]
          match i, hx with
          | 0, hx =>
            cases hx
            refine r_cS ?_
            walk_at "rd"
            intro sq kc
            exact use_outN (clo_at_cells (okl_law_1 T) (by decide) (lm0.st (.of s27)) d0 o0 cap_law_1 kc) fun z1 H' s' e' => z _ _ s' ⟨z1, rfl, e'⟩
          | 1, hx =>
            cases hx
            refine r_cS ?_
            walk_at "rd"
            intro sq kc
            exact use_outN (clo_at_cells (okl_law_2 T) (by decide) (lm1.st (.of s27)) d1 o1 cap_law_2 kc) fun z1 H' s' e' => z _ _ s' ⟨z1, rfl, e'⟩
          | 2, hx =>
            cases hx
            refine r_cS ?_
            walk_at "rd"
            intro sq kc
            exact use_outN (clo_at_cells (okl_law_3 T) (by decide) (lm2.st (.of s27)) d2 o2 cap_law_3 kc) fun z1 H' s' e' => z _ _ s' ⟨z1, rfl, e'⟩
          | n + 3, hx => cases hx
        · obtain ⟨u0, u1, u2, eys⟩ : ∃ u0 u1 u2, ys = [u0, u1, u2] := by
            match ys, ly with
            | [u0, u1, u2], _ => exact ⟨u0, u1, u2, rfl⟩
          subst eys
          obtain ⟨a0, rfl, h0⟩ := all 0 _ rfl
          obtain ⟨a1, rfl, h1⟩ := all 1 _ rfl
          obtain ⟨a2, rfl, h2⟩ := all 2 _ rfl
          have hat28 := hatB_s s28 hat26
          have hT28 := tabsF_s s28 hT26
          clear all s28 ly told hat26 hT26 lm0 lm1 lm2 d0 d1 d2 o0 o1 o2
          walk_at "go"
          rename_i y0 H29 s29 n29 e29 y1 H30 s30 n30 e30
          refine a_rep e30 (by decide) (by decide) (by show 1 ≤ 100; decide) fun y2 H31 s31 n31 e31 => ?_
          have e31' : H31 y2 = some (.lst [.ref y0, .ref y0, .ref y0]) := e31
          have sm : Same H28 H31 := sameT s29 (sameT s30 s31)
          have ey := s31 _ _ (s30 _ _ e29)
          have dp : ∀ {v : Addr}, H31 v = some (.tup [.str "InvalidNumber"]) → Dp K H31 (.ref v) (.tuple [.str "InvalidNumber"]) := fun e => .tup (sqT_at e) (.cons (.str _) .nil)
          refine a_neSelf (d := .list [.tuple [.str "InvalidNumber"], .tuple [.str "InvalidNumber"], .tuple [.str "InvalidNumber"]]) (.lst (sqL_at (sm _ _ eD)) (.cons (dp (sm _ _ h0)) (.cons (dp (sm _ _ h1)) (.cons (dp (sm _ _ h2)) .nil)))) (.lst (sqL_at e31') (.cons (dp ey) (.cons (dp ey) (.cons (dp ey) .nil)))) (by decide +kernel) (by simp [PyData.eqv, PyData.eqvAll]) ?_
          walk_at "go"
          exact ⟨_, _, _, _, _, _, _, _, _, _, _, _, _, _, _, _, rfl, hatB_s sm hat28, tabsF_s sm hT28⟩
  · rintro σ H' ⟨x2, x3, x4, x5, x6, x7, x8, x9, x10, x11, x12, x13, x14, x15, x16, x17, rfl, hat, hT⟩
    walk_at "rd"
    exact k H'

end G57
end
namespace G57
open PySem PySem.Spec PyProof.Rows L2
theorem facts {P : Program} {w : World} {K : PySem.W.Frag} {h : Heap} {mg : Str → Option Value} {f : Addr} (X : K.In h) (G : h.Ns mainGlobals mg) (hfa : mg ("law" : Str) = some (.ref f)) (c : SaysA exL fnL K) :
    ∃ fd : FuncData, (∀ (s : Shared) (v : Value), BindsTo s fd ⟨[v], []⟩ [("_law_script", v)]) ∧ ∀ base : Heap, K.In base → base.Ns mainGlobals mg → (∀ p ∈ tfL, LamX.TabB base mg (He.cT K p).1 (He.cT K p).2) → FnOk P w K mg base CX0 lawLev f fd ["_law_script"] (spLaw K) := by
  have T : Tx K mg := ⟨c, h, X, G⟩
  obtain ⟨fd, F⟩ := fn_law T
  have e := hfa.symm.trans (fg_law T)
  cases e
  have b := FunD.bindsA (ps := ["_law_script"]) F fun _ _ _ _ _ _ us hl => match us, hl with | [_], _ => rfl
  exact ⟨fd, fun s v => b s [v] rfl, fun base _ _ tb => ok_law ⟨T, tb⟩ F⟩
theorem tabs0 {K : PySem.W.Frag} {H : Hp} (h : ∀ p ∈ tfL, H (He.cT K p).2 = some (.tbl #[])) : TabsF (TL K) H := tabsF_0 fun p hp => by
  simp only [TL, List.mem_cons, List.not_mem_nil, or_false] at hp
  subst hp
  exact h _ List.mem_cons_self
end G57
open PySem PySem.W PySem.Calls PyProof.Rows
set_option maxHeartbeats 0
theorem PySem.Challenge.cw_staleloaves_k47_reports_holds : PySem.Challenge.rw_staleloaves_k47_reports.Holds := by
  w_on; o_law
  refine HandSHeadRun.head_any (r := G57.Rrow) (q := view G57.Rrow.prog [39]) (H := G57.hkL) (ob := G57.obL) (M := 6000) (loose := G57.looseL) (d := HandSHeadRun.topDef G57.Rrow.prog 39) (kwd := []) G57.obL_eq
    (by kernel_rfl) (fun s => by kernel_rfl) G57.runL (by kernel_rfl) (by kernel_rfl) (by kernel_rfl) (by rfl) (by first | assumption | decide +kernel) (by decide +kernel) ⟨rfl, rfl, rfl, rfl, rfl, by decide +kernel⟩ ?hw ?hc
  case hw => w_witness2
  case hc =>
    refine G57.walk_ofT (l := PySem.Challenge.rw_staleloaves_k47_reports) (n := 63) (k := G57.lawLev) (x := "_law_script") rfl (by decide) (by kernel_rfl) ⟨rfl, by decide, by decide⟩ ?F
    intro w mg fa h Y G hmg0
    obtain ⟨K, KX, c⟩ := Y
    have hmg : mg ("law" : PySem.Str) = some (.ref fa) := by
      have e : (HandSHeadRun.topDef G57.Rrow.prog 39).name = ("law" : PySem.Str) := by kernel_rfl
      rw [← e]
      exact hmg0
    obtain ⟨fd, hb, hF⟩ := G57.facts (P := (PySem.Challenge.rw_staleloaves_k47_reports).prog) (w := w) KX G hmg c.a
    have mem : ∀ {Z : PySem.Addr × PySem.Addr → Prop}, (∀ p ∈ G57.tfL, Z (He.cT K p)) → ∀ p ∈ G57.tfL.map (He.cT K), Z p := fun {Z} z p hp => by
      obtain ⟨q, hq, e⟩ := List.mem_map.mp hp
      rw [← e]
      exact z q hq
    exact ⟨K, fd, G57.tfL.map (He.cT K), G57.spLaw K, KX, mem fun p hp => c.empty p hp, mem fun p hp => c.out p hp, mem fun p hp => PySem.W.codeHd_of_K KX (c.hd p hp), hb,
      fun H a ns hl hT hS => ⟨a, ns, rfl, hS, hl, G57.tabs0 fun p hp => hT _ (List.mem_map.mpr ⟨p, hp, rfl⟩), fun _ => rfl⟩, fun base Kb Gb tb => hF base Kb Gb fun p hp => tb _ (List.mem_map.mpr ⟨p, hp, rfl⟩)⟩
